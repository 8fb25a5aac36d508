import PyProof.Rows.All
import Wide.All
import OpenK.AllK
import Wide.FinOn
import HandS.ForMost
import HandS.IsInst
import HandS.SortInts
import HandS.SortRule
import HandS.Style
import HandS.SortKw
import HandS.Wide
import HandS.TupAny
import HandS.Deep
import HandS.Flow
import HandS.Conv
import PySem.Challenge.RW_juriesagree_k71_whole_many_marks_and_ear
set_option Elab.async false
set_option linter.all false
set_option maxRecDepth 100000
set_option maxHeartbeats 4000000
/-! The data layer: values as trees. -/
namespace DL
open PySem PySem.Spec PyProof.Rows L2

/-- plain data -/
inductive D where
  | non | bl (b : Bool) | int (i : Int) | str (x : Str) | lst (xs : List D) | tup (xs : List D) | scr (ns : List Int)
  | dK (kvs : List (Key × D)) | dT (kvs : List (List Key × D))

abbrev Fr := PySem.W.Frag

mutual
inductive Rep (K : Fr) (F : Hp) : V → D → Prop
  | non : Rep K F .non .non
  | bl (b : Bool) : Rep K F (.bl b) (.bl b)
  | int (i : Int) : Rep K F (.int i) (.int i)
  | str (x : Str) : Rep K F (.str x) (.str x)
  | ob {a : Addr} {o : HO} {d : D} : F a = some o → RepO K F o d → Rep K F (.ref a) d
  | scr {a : Addr} {ns : List Int} : SqL K F a (ns.map V.int) → Rep K F (.ref a) (.scr ns)
inductive RepO (K : Fr) (F : Hp) : HO → D → Prop
  | lst {vs : List V} {ds : List D} : RepL K F vs ds → RepO K F (.lst vs) (.lst ds)
  | tup {vs : List V} {ds : List D} : RepL K F vs ds → RepO K F (.tup vs) (.tup ds)
  | dK {kvs : List (Key × V)} {kds : List (Key × D)} : RepK K F kvs kds → RepO K F (.dK kvs) (.dK kds)
  | dT {kvs : List (List Key × V)} {kds : List (List Key × D)} : RepT K F kvs kds → RepO K F (.dT kvs) (.dT kds)
inductive RepL (K : Fr) (F : Hp) : List V → List D → Prop
  | nil : RepL K F [] []
  | cons {v : V} {vs : List V} {d : D} {ds : List D} : Rep K F v d → RepL K F vs ds → RepL K F (v :: vs) (d :: ds)
inductive RepK (K : Fr) (F : Hp) : List (Key × V) → List (Key × D) → Prop
  | nil : RepK K F [] []
  | cons {k : Key} {v : V} {vs : List (Key × V)} {d : D} {ds : List (Key × D)} : Rep K F v d → RepK K F vs ds → RepK K F ((k, v) :: vs) ((k, d) :: ds)
inductive RepT (K : Fr) (F : Hp) : List (List Key × V) → List (List Key × D) → Prop
  | nil : RepT K F [] []
  | cons {k : List Key} {v : V} {vs : List (List Key × V)} {d : D} {ds : List (List Key × D)} : Rep K F v d → RepT K F vs ds → RepT K F ((k, v) :: vs) ((k, d) :: ds)
end

section
variable {K : Fr} {F F' : Hp}
mutual
theorem Rep.mono (s : Same F F') : ∀ {v : V} {d : D}, Rep K F v d → Rep K F' v d
  | _, _, .non => .non
  | _, _, .bl b => .bl b
  | _, _, .int i => .int i
  | _, _, .str x => .str x
  | _, _, .ob h r => .ob (s _ _ h) (RepO.mono s r)
  | _, _, .scr h => .scr (s.seq h)
theorem RepO.mono (s : Same F F') : ∀ {o : HO} {d : D}, RepO K F o d → RepO K F' o d
  | _, _, .lst r => .lst (RepL.mono s r)
  | _, _, .tup r => .tup (RepL.mono s r)
  | _, _, .dK r => .dK (RepK.mono s r)
  | _, _, .dT r => .dT (RepT.mono s r)
theorem RepL.mono (s : Same F F') : ∀ {vs : List V} {ds : List D}, RepL K F vs ds → RepL K F' vs ds
  | _, _, .nil => .nil
  | _, _, .cons a b => .cons (Rep.mono s a) (RepL.mono s b)
theorem RepK.mono (s : Same F F') : ∀ {vs : List (Key × V)} {ds : List (Key × D)}, RepK K F vs ds → RepK K F' vs ds
  | _, _, .nil => .nil
  | _, _, .cons a b => .cons (Rep.mono s a) (RepK.mono s b)
theorem RepT.mono (s : Same F F') : ∀ {vs : List (List Key × V)} {ds : List (List Key × D)}, RepT K F vs ds → RepT K F' vs ds
  | _, _, .nil => .nil
  | _, _, .cons a b => .cons (Rep.mono s a) (RepT.mono s b)
end

/-- what may be changed: lists and dicts -/
inductive RepW (K : Fr) (F : Hp) : HO → D → Prop
  | lst {vs : List V} {ds : List D} : RepL K F vs ds → RepW K F (.lst vs) (.lst ds)
  | dK {kvs : List (Key × V)} {kds : List (Key × D)} : RepK K F kvs kds → RepW K F (.dK kvs) (.dK kds)
  | dT {kvs : List (List Key × V)} {kds : List (List Key × D)} : RepT K F kvs kds → RepW K F (.dT kvs) (.dT kds)
theorem RepW.toO {o : HO} {d : D} (h : RepW K F o d) : RepO K F o d := by
  cases h with
  | lst r => exact .lst r
  | dK r => exact .dK r
  | dT r => exact .dT r
theorem RepW.mono {o : HO} {d : D} (s : Same F F') (h : RepW K F o d) : RepW K F' o d := by
  cases h with
  | lst r => exact .lst (r.mono s)
  | dK r => exact .dK (r.mono s)
  | dT r => exact .dT (r.mono s)
theorem RepL.length : ∀ {vs : List V} {ds : List D}, RepL K F vs ds → vs.length = ds.length
  | _, _, .nil => rfl
  | _, _, .cons _ b => by simp [RepL.length b]
theorem RepL.get : ∀ {vs : List V} {ds : List D} {i : Nat} {d : D}, RepL K F vs ds → ds[i]? = some d → ∃ v, vs[i]? = some v ∧ Rep K F v d
  | _, _, _, _, .nil, e => by simp at e
  | _, _, 0, _, .cons r _, e => by simp at e; subst e; exact ⟨_, rfl, r⟩
  | _, _, i + 1, _, .cons _ t, e => by
    obtain ⟨v, h1, h2⟩ := RepL.get (i := i) t (by simpa using e)
    exact ⟨v, by simpa using h1, h2⟩
theorem RepL.getV : ∀ {vs : List V} {ds : List D} {i : Nat} {v : V}, RepL K F vs ds → vs[i]? = some v → ∃ d, ds[i]? = some d ∧ Rep K F v d
  | _, _, _, _, .nil, e => by simp at e
  | _, _, 0, _, .cons r _, e => by simp at e; subst e; exact ⟨_, rfl, r⟩
  | _, _, i + 1, _, .cons _ t, e => by
    obtain ⟨v, h1, h2⟩ := RepL.getV (i := i) t (by simpa using e)
    exact ⟨v, by simpa using h1, h2⟩
theorem RepL.append : ∀ {vs ws : List V} {ds es : List D}, RepL K F vs ds → RepL K F ws es → RepL K F (vs ++ ws) (ds ++ es)
  | _, _, _, _, .nil, s => s
  | _, _, _, _, .cons r t, s => .cons r (RepL.append t s)
theorem RepL.take : ∀ {vs : List V} {ds : List D} (n : Nat), RepL K F vs ds → RepL K F (vs.take n) (ds.take n)
  | _, _, 0, _ => .nil
  | _, _, _ + 1, .nil => .nil
  | _, _, n + 1, .cons r t => .cons r (RepL.take n t)
theorem RepL.drop : ∀ {vs : List V} {ds : List D} (n : Nat), RepL K F vs ds → RepL K F (vs.drop n) (ds.drop n)
  | _, _, 0, r => r
  | _, _, _ + 1, .nil => .nil
  | _, _, n + 1, .cons _ t => RepL.drop n t
theorem RepL.set {x : V} {d : D} (r : Rep K F x d) : ∀ {vs : List V} {ds : List D} (i : Nat), RepL K F vs ds → RepL K F (vs.set i x) (ds.set i d)
  | _, _, _, .nil => .nil
  | _, _, 0, .cons _ t => .cons r t
  | _, _, i + 1, .cons q t => .cons q (RepL.set r i t)
theorem RepL.eraseIdx : ∀ {vs : List V} {ds : List D} (i : Nat), RepL K F vs ds → RepL K F (vs.eraseIdx i) (ds.eraseIdx i)
  | _, _, _, .nil => .nil
  | _, _, 0, .cons _ t => t
  | _, _, i + 1, .cons q t => .cons q (RepL.eraseIdx i t)
theorem RepL.reverse {vs : List V} {ds : List D} (h : RepL K F vs ds) : RepL K F vs.reverse ds.reverse := by
  induction vs generalizing ds with
  | nil => cases h; exact .nil
  | cons v vs ih =>
    cases h with
    | cons a b => rw [List.reverse_cons, List.reverse_cons]; exact (ih b).append (.cons a .nil)
theorem RepL.ints : ∀ {vs : List V} {ns : List Int}, RepL K F vs (ns.map D.int) → vs = ns.map V.int
  | [], [], _ => rfl
  | v :: vs, n :: ns, h => by
    cases h with
    | cons a b =>
      have e := RepL.ints b
      have e1 : v = .int n := by
        generalize hd : D.int n = d at a
        cases a with
        | int i => cases hd; rfl
        | ob h r => subst hd; cases r
        | _ => cases hd
      rw [e, e1]; rfl
  | [], _ :: _, h => by cases h
  | _ :: _, [], h => by cases h
theorem RepL.ofInts : ∀ (ns : List Int), RepL K F (ns.map V.int) (ns.map D.int)
  | [] => .nil
  | n :: ns => .cons (.int n) (RepL.ofInts ns)
theorem Rep.int_inv {v : V} {i : Int} (h : Rep K F v (.int i)) : v = .int i := by
  generalize hd : D.int i = d at h
  cases h with
  | int i => cases hd; rfl
  | ob h r => subst hd; cases r
  | _ => cases hd
theorem Rep.bl_inv {v : V} {i : Bool} (h : Rep K F v (.bl i)) : v = .bl i := by
  generalize hd : D.bl i = d at h
  cases h with
  | bl i => cases hd; rfl
  | ob h r => subst hd; cases r
  | _ => cases hd
theorem Rep.str_inv {v : V} {i : Str} (h : Rep K F v (.str i)) : v = .str i := by
  generalize hd : D.str i = d at h
  cases h with
  | str i => cases hd; rfl
  | ob h r => subst hd; cases r
  | _ => cases hd
theorem Rep.non_inv {v : V} (h : Rep K F v .non) : v = .non := by
  generalize hd : D.non = d at h
  cases h with
  | non => rfl
  | ob h r => subst hd; cases r
  | _ => cases hd
theorem Rep.lst_inv {v : V} {ds : List D} (h : Rep K F v (.lst ds)) : ∃ a vs, v = .ref a ∧ F a = some (.lst vs) ∧ RepL K F vs ds := by
  generalize hd : D.lst ds = d at h
  cases h with
  | ob h r => subst hd; cases r with | lst r => exact ⟨_, _, rfl, h, r⟩
  | _ => cases hd
theorem Rep.tup_inv {v : V} {ds : List D} (h : Rep K F v (.tup ds)) : ∃ a vs, v = .ref a ∧ F a = some (.tup vs) ∧ RepL K F vs ds := by
  generalize hd : D.tup ds = d at h
  cases h with
  | ob h r => subst hd; cases r with | tup r => exact ⟨_, _, rfl, h, r⟩
  | _ => cases hd
theorem Rep.scr_inv {v : V} {ns : List Int} (h : Rep K F v (.scr ns)) : ∃ a, v = .ref a ∧ SqL K F a (ns.map V.int) := by
  generalize hd : D.scr ns = d at h
  cases h with
  | ob h r => subst hd; cases r
  | scr h => cases hd; exact ⟨_, rfl, h⟩
  | _ => cases hd
end

/-! ### growing -/
structure Grow (F H F' H' : Hp) : Prop where
  ff : Same F F'
  hh : Same H H'
  fh : Same F' H'
  ow : ∀ a, H a ≠ none → F a = none → F' a = none
theorem Grow.refl {F H : Hp} (s : Same F H) : Grow F H F H := ⟨Same.refl F, Same.refl H, s, fun _ _ h => h⟩
theorem Grow.trans {F H F1 H1 F2 H2 : Hp} (a : Grow F H F1 H1) (b : Grow F1 H1 F2 H2) : Grow F H F2 H2 :=
  ⟨a.ff.trans b.ff, a.hh.trans b.hh, b.fh, fun x h1 h2 => b.ow x (by
    cases e : H x with
    | none => exact absurd e h1
    | some o => rw [a.hh _ _ e]; simp) (a.ow x h1 h2)⟩
theorem same_new {H : Hp} {p : Addr} {o : HO} (n : H p = none) : Same H (upd H p o) := fun b u e => by
  rw [upd_ne (ne_of_none e n)]; exact e
theorem Grow.new {F H : Hp} {p : Addr} {o : HO} (s : Same F H) (n : H p = none) : Grow F H (upd F p o) (upd H p o) := by
  have nf : F p = none := s.free n
  refine ⟨same_new nf, same_new n, fun b u e => ?_, fun a h1 h2 => ?_⟩
  · by_cases hb : b = p
    · subst hb; rw [upd_same] at e ⊢; exact e
    · rw [upd_ne hb] at e ⊢; exact s _ _ e
  · have : a ≠ p := by rintro rfl; exact h1 n
    rw [upd_ne this]; exact h2
/-- a new object that is not frozen -/
theorem Grow.newH {F H : Hp} {p : Addr} {o : HO} (s : Same F H) (n : H p = none) : Grow F H F (upd H p o) :=
  ⟨Same.refl F, same_new n, s.trans (same_new n), fun _ _ h => h⟩
/-- an unfrozen object is frozen -/
theorem Grow.frz {F H F' H' : Hp} {p : Addr} {o : HO} (g : Grow F H F' H') (n : H p = none) (e : H' p = some o) (nf : F' p = none) : Grow F H (upd F' p o) H' := by
  refine ⟨g.ff.trans (same_new nf), g.hh, fun b u q => ?_, fun a h1 h2 => ?_⟩
  · by_cases hb : b = p
    · subst hb; rw [upd_same] at q; rw [e]; exact q
    · rw [upd_ne hb] at q; exact g.fh _ _ q
  · have : a ≠ p := by rintro rfl; exact h1 n
    rw [upd_ne this]; exact g.ow a h1 h2

/-! ### borrowed values -/
def BRep (K : Fr) (F H : Hp) (v : V) (d : D) : Prop := Rep K F v d ∨ ∃ a o, v = .ref a ∧ F a = none ∧ H a = some o ∧ RepW K F o d
inductive BRepL (K : Fr) (F H : Hp) : List V → List D → Prop
  | nil : BRepL K F H [] []
  | cons {v : V} {vs : List V} {d : D} {ds : List D} : BRep K F H v d → BRepL K F H vs ds → BRepL K F H (v :: vs) (d :: ds)
section
variable {K : Fr} {F H F' H' : Hp} {v : V}
theorem BRep.grow {d : D} (h : BRep K F H v d) (g : Grow F H F' H') : BRep K F' H' v d := by
  rcases h with h | ⟨a, o, e, n, q, r⟩
  · exact .inl (h.mono g.ff)
  · exact .inr ⟨a, o, e, g.ow a (by rw [q]; simp) n, g.hh _ _ q, r.mono g.ff⟩
theorem BRep.rep {d : D} (h : BRep K F H v d) (s : Same F H) : Rep K H v d := by
  rcases h with h | ⟨a, o, rfl, n, q, r⟩
  · exact h.mono s
  · exact .ob q (r.mono s).toO
theorem BRep.int {i : Int} (h : BRep K F H v (.int i)) : v = .int i := by
  rcases h with h | ⟨a, o, rfl, n, q, r⟩
  · exact h.int_inv
  · cases r
theorem BRep.bl {i : Bool} (h : BRep K F H v (.bl i)) : v = .bl i := by
  rcases h with h | ⟨a, o, rfl, n, q, r⟩
  · exact h.bl_inv
  · cases r
theorem BRep.str {i : Str} (h : BRep K F H v (.str i)) : v = .str i := by
  rcases h with h | ⟨a, o, rfl, n, q, r⟩
  · exact h.str_inv
  · cases r
theorem BRep.non (h : BRep K F H v .non) : v = .non := by
  rcases h with h | ⟨a, o, rfl, n, q, r⟩
  · exact h.non_inv
  · cases r
theorem BRep.lst {ds : List D} (h : BRep K F H v (.lst ds)) (s : Same F H) : ∃ a vs, v = .ref a ∧ H a = some (.lst vs) ∧ RepL K F vs ds := by
  rcases h with h | ⟨a, o, rfl, n, q, r⟩
  · obtain ⟨a, vs, rfl, h, r⟩ := h.lst_inv; exact ⟨a, vs, rfl, s _ _ h, r⟩
  · cases r with | lst r => exact ⟨a, _, rfl, q, r⟩
theorem BRep.tup {ds : List D} (h : BRep K F H v (.tup ds)) (s : Same F H) : ∃ a vs, v = .ref a ∧ H a = some (.tup vs) ∧ RepL K F vs ds := by
  rcases h with h | ⟨a, o, rfl, n, q, r⟩
  · obtain ⟨a, vs, rfl, h, r⟩ := h.tup_inv; exact ⟨a, vs, rfl, s _ _ h, r⟩
  · cases r
theorem BRep.scr {ns : List Int} (h : BRep K F H v (.scr ns)) (s : Same F H) : ∃ a, v = .ref a ∧ SqL K H a (ns.map V.int) := by
  rcases h with h | ⟨a, o, rfl, n, q, r⟩
  · obtain ⟨a, rfl, h'⟩ := h.scr_inv; exact ⟨a, rfl, s.seq h'⟩
  · cases r
theorem BRepL.grow : ∀ {vs : List V} {ds : List D}, BRepL K F H vs ds → Grow F H F' H' → BRepL K F' H' vs ds
  | _, _, .nil, _ => .nil
  | _, _, .cons a b, g => .cons (a.grow g) (b.grow g)
theorem BRepL.repH : ∀ {vs : List V} {ds : List D}, BRepL K F H vs ds → Same F H → RepL K H vs ds
  | _, _, .nil, _ => .nil
  | _, _, .cons a b, g => .cons (a.rep g) (b.repH g)
theorem BRepL.length : ∀ {vs : List V} {ds : List D}, BRepL K F H vs ds → vs.length = ds.length
  | _, _, .nil => rfl
  | _, _, .cons _ b => by simp [BRepL.length b]
end

/-! ### environments -/
inductive Sl where
  | val (d : D) | own (d : D)
abbrev GE := List (Option Sl)
def SlOk (K : Fr) (HB F H : Hp) (x : Option (Option V)) : Sl → Prop
  | .val d => ∃ v, x = some (some v) ∧ Rep K F v d
  | .own d => ∃ a o, x = some (some (.ref a)) ∧ HB a = none ∧ F a = none ∧ H a = some o ∧ RepW K F o d
structure J (K : Fr) (B HB F : Hp) (Γ : GE) (σ : L2.St) (H : Hp) : Prop where
  gr : Grow B HB F H
  len : Γ.length = σ.length
  sl : ∀ (i : Nat) s, Γ[i]? = some (some s) → SlOk K HB F H σ[i]? s
  ow : ∀ (i j : Nat) d d' a, i ≠ j → Γ[i]? = some (some (.own d)) → Γ[j]? = some (some (.own d')) → σ[i]? = some (some (.ref a)) → σ[j]? ≠ some (some (.ref a))
section
variable {K : Fr} {B HB F H F' H' : Hp} {Γ : GE} {σ : L2.St}
theorem J.fh (j : J K B HB F Γ σ H) : Same F H := j.gr.fh
theorem SlOk.grow {x : Option (Option V)} {s : Sl} (h : SlOk K HB F H x s) (g : Grow F H F' H') : SlOk K HB F' H' x s := by
  cases s with
  | val d => obtain ⟨v, e, r⟩ := h; exact ⟨v, e, r.mono g.ff⟩
  | own d => obtain ⟨a, o, e, n1, n2, q, r⟩ := h; exact ⟨a, o, e, n1, g.ow a (by rw [q]; simp) n2, g.hh _ _ q, r.mono g.ff⟩
theorem J.grow (j : J K B HB F Γ σ H) (g : Grow F H F' H') : J K B HB F' Γ σ H' := ⟨j.gr.trans g, j.len, fun i s e => (j.sl i s e).grow g, j.ow⟩
theorem J.rebase (j : J K B HB F Γ σ H) : J K F HB F Γ σ H := ⟨⟨Same.refl F, j.gr.hh, j.gr.fh, fun _ _ h => h⟩, j.len, j.sl, j.ow⟩
theorem J.unbase {B' : Hp} (j : J K B' HB F Γ σ H) (g : Grow B HB B' H') : J K B HB F Γ σ H :=
  ⟨⟨g.ff.trans j.gr.ff, j.gr.hh, j.gr.fh, fun a h1 h2 => j.gr.ow a h1 (g.ow a h1 h2)⟩, j.len, j.sl, j.ow⟩
/-- a name is set to a frozen value -/
theorem J.set {v : V} {d : D} (j : J K B HB F Γ σ H) (i : Nat) (r : Rep K F v d) : J K B HB F (Γ.set i (some (.val d))) (σ.set i (some v)) H := by
  refine ⟨j.gr, by simp [j.len], fun k s e => ?_, fun k l d1 d2 a ne e1 e2 e3 => ?_⟩
  · by_cases h : i = k
    · subst h
      have hi : i < Γ.length := by
        rw [List.getElem?_set] at e
        split at e
        · split at e
          · assumption
          · cases e
        · exact absurd rfl (by assumption)
      rw [List.getElem?_set_self hi] at e
      cases e
      exact ⟨v, by rw [List.getElem?_set_self (by rw [← j.len]; exact hi)], r⟩
    · rw [List.getElem?_set_ne h] at e ⊢
      exact j.sl k s e
  · have nk : i ≠ k := by
      rintro rfl
      rw [List.getElem?_set] at e1
      split at e1
      · split at e1
        · cases e1
        · cases e1
      · exact absurd rfl (by assumption)
    have nl : i ≠ l := by
      rintro rfl
      rw [List.getElem?_set] at e2
      split at e2
      · split at e2
        · cases e2
        · cases e2
      · exact absurd rfl (by assumption)
    rw [List.getElem?_set_ne nk] at e1 e3
    rw [List.getElem?_set_ne nl] at e2 ⊢
    exact j.ow k l d1 d2 a ne e1 e2 e3
/-- a name is set to a new object of its own -/
theorem J.setOwn {p : Addr} {o : HO} {d : D} (j : J K B HB F Γ σ H) (i : Nat) (n1 : HB p = none) (n2 : F p = none) (e : H p = some o) (r : RepW K F o d)
    (ne : ∀ (k : Nat) d', Γ[k]? = some (some (.own d')) → σ[k]? ≠ some (some (.ref p))) : J K B HB F (Γ.set i (some (.own d))) (σ.set i (some (.ref p))) H := by
  refine ⟨j.gr, by simp [j.len], fun k s q => ?_, fun k l d1 d2 a nkl e1 e2 e3 => ?_⟩
  · by_cases h : i = k
    · subst h
      have hi : i < Γ.length := by
        rw [List.getElem?_set] at q
        split at q
        · split at q
          · assumption
          · cases q
        · exact absurd rfl (by assumption)
      rw [List.getElem?_set_self hi] at q
      cases q
      exact ⟨p, o, by rw [List.getElem?_set_self (by rw [← j.len]; exact hi)], n1, n2, e, r⟩
    · rw [List.getElem?_set_ne h] at q ⊢
      exact j.sl k s q
  · by_cases hk : i = k
    · subst hk
      have nl : i ≠ l := nkl
      rw [List.getElem?_set_ne nl] at e2 ⊢
      have hi : i < σ.length := by
        rw [List.getElem?_set] at e3
        split at e3
        · split at e3
          · assumption
          · cases e3
        · exact absurd rfl (by assumption)
      rw [List.getElem?_set_self hi] at e3
      cases e3
      exact ne l d2 e2
    · rw [List.getElem?_set_ne hk] at e1 e3
      by_cases hl : i = l
      · subst hl
        have hi : i < σ.length := by
          rw [← j.len]
          rw [List.getElem?_set] at e2
          split at e2
          · split at e2
            · assumption
            · cases e2
          · exact absurd rfl (by assumption)
        rw [List.getElem?_set_self hi]
        intro z
        cases z
        exact ne k d1 e1 e3
      · rw [List.getElem?_set_ne hl] at e2 ⊢
        exact j.ow k l d1 d2 a nkl e1 e2 e3
/-- an object of a name's own is changed -/
theorem J.write {i : Nat} {a : Addr} {o : HO} {d d' : D} (j : J K B HB F Γ σ H) (e : Γ[i]? = some (some (.own d))) (e2 : σ[i]? = some (some (.ref a))) (r : RepW K F o d') :
    J K B HB F (Γ.set i (some (.own d'))) σ (upd H a o) := by
  obtain ⟨a', o', ea, n1, n2, q, r'⟩ := j.sl i _ e
  rw [e2] at ea
  cases ea
  have hi : i < Γ.length := (List.getElem?_eq_some_iff.mp e).1
  have keep : ∀ b u, b ≠ a → H b = some u → upd H a o b = some u := fun b u nb h => by rw [upd_ne nb]; exact h
  refine ⟨⟨j.gr.ff, fun b u h => keep b u (by rintro rfl; rw [n1] at h; cases h) (j.gr.hh _ _ h), fun b u h => keep b u (by rintro rfl; rw [n2] at h; cases h) (j.gr.fh _ _ h), j.gr.ow⟩, by simp [j.len], fun k s h => ?_, fun k l d1 d2 b nkl e1 e2' e3 => ?_⟩
  · by_cases hk : i = k
    · subst hk
      rw [List.getElem?_set_self hi] at h
      cases h
      exact ⟨a, o, e2, n1, n2, upd_same, r⟩
    · rw [List.getElem?_set_ne hk] at h
      have z := j.sl k s h
      cases s with
      | val d => exact z
      | own d2 =>
        obtain ⟨b, u, eb, m1, m2, qb, rb⟩ := z
        refine ⟨b, u, eb, m1, m2, keep b u ?_ qb, rb⟩
        rintro rfl
        exact j.ow i k _ _ b hk e h e2 eb
  · have f1 : ∃ d0, Γ[k]? = some (some (.own d0)) := by
      by_cases hk : i = k
      · subst hk; exact ⟨_, e⟩
      · rw [List.getElem?_set_ne hk] at e1; exact ⟨_, e1⟩
    have f2 : ∃ d0, Γ[l]? = some (some (.own d0)) := by
      by_cases hk : i = l
      · subst hk; exact ⟨_, e⟩
      · rw [List.getElem?_set_ne hk] at e2'; exact ⟨_, e2'⟩
    obtain ⟨_, f1⟩ := f1
    obtain ⟨_, f2⟩ := f2
    exact j.ow k l _ _ b nkl f1 f2 e3
/-- an object of a name's own is frozen -/
theorem J.freeze {i : Nat} {d : D} (j : J K B HB F Γ σ H) (e : Γ[i]? = some (some (.own d))) : ∃ F', J K B HB F' (Γ.set i (some (.val d))) σ H := by
  obtain ⟨a, o, ea, n1, n2, q, r⟩ := j.sl i _ e
  have hi : i < Γ.length := (List.getElem?_eq_some_iff.mp e).1
  have sf : Same F (upd F a o) := same_new n2
  have sh : Same (upd F a o) H := fun b u h => by
    by_cases hb : b = a
    · subst hb; rw [upd_same] at h; rw [q]; exact h
    · rw [upd_ne hb] at h; exact j.fh _ _ h
  refine ⟨upd F a o, ⟨⟨j.gr.ff.trans sf, j.gr.hh, sh, fun b h1 h2 => ?_⟩, by simp [j.len], fun k s h => ?_, fun k l d1 d2 b nkl e1 e2 e3 => ?_⟩⟩
  · have : b ≠ a := by rintro rfl; exact h1 n1
    rw [upd_ne this]; exact j.gr.ow b h1 h2
  · by_cases hk : i = k
    · subst hk
      rw [List.getElem?_set_self hi] at h
      cases h
      exact ⟨.ref a, ea, .ob upd_same (r.mono sf).toO⟩
    · rw [List.getElem?_set_ne hk] at h
      have z := j.sl k s h
      cases s with
      | val d => obtain ⟨v, ev, rv⟩ := z; exact ⟨v, ev, rv.mono sf⟩
      | own d2 =>
        obtain ⟨b, u, eb, m1, m2, qb, rb⟩ := z
        refine ⟨b, u, eb, m1, ?_, qb, rb.mono sf⟩
        have : b ≠ a := by
          rintro rfl
          exact j.ow i k _ _ b hk e h ea eb
        rw [upd_ne this]; exact m2
  · have f1 : i ≠ k := by
      rintro rfl
      rw [List.getElem?_set_self hi] at e1; cases e1
    have f2 : i ≠ l := by
      rintro rfl
      rw [List.getElem?_set_self hi] at e2; cases e2
    rw [List.getElem?_set_ne f1] at e1
    rw [List.getElem?_set_ne f2] at e2
    exact j.ow k l _ _ b nkl e1 e2 e3
/-- a name is forgotten -/
theorem J.drop {i : Nat} (j : J K B HB F Γ σ H) : J K B HB F (Γ.set i none) σ H := by
  refine ⟨j.gr, by simp [j.len], fun k s h => ?_, fun k l d1 d2 b nkl e1 e2 e3 => ?_⟩
  · have f1 : i ≠ k := by
      rintro rfl
      rw [List.getElem?_set] at h
      split at h
      · split at h <;> cases h
      · exact absurd rfl (by assumption)
    rw [List.getElem?_set_ne f1] at h
    exact j.sl k s h
  · have f1 : i ≠ k := by
      rintro rfl
      rw [List.getElem?_set] at e1
      split at e1
      · split at e1 <;> cases e1
      · exact absurd rfl (by assumption)
    have f2 : i ≠ l := by
      rintro rfl
      rw [List.getElem?_set] at e2
      split at e2
      · split at e2 <;> cases e2
      · exact absurd rfl (by assumption)
    rw [List.getElem?_set_ne f1] at e1
    rw [List.getElem?_set_ne f2] at e2
    exact j.ow k l _ _ b nkl e1 e2 e3
end
end DL

set_option Elab.async false
set_option linter.all false
set_option maxRecDepth 100000
set_option maxHeartbeats 4000000
namespace DL
open PySem PySem.Spec PyProof.Rows L2

abbrev WE := GE → (D → Prop) → Prop
abbrev WT := GE → (Bool → Prop) → Prop
abbrev WA := GE → (List D → Prop) → Prop

/-! ### judgements -/
def SE (K : Fr) (t : TE) (f : WE) : Prop := ∀ (B HB F : Hp) (Γ : GE) (σ : L2.St) (H : Hp) (Q : VK) (Φ : D → Prop), J K B HB F Γ σ H → f Γ Φ → (∀ v d F' H', Grow F H F' H' → Rep K F' v d → Φ d → Q v H') → t σ H Q
def SB (K : Fr) (t : TE) (f : WE) : Prop := ∀ (B HB F : Hp) (Γ : GE) (σ : L2.St) (H : Hp) (Q : VK) (Φ : D → Prop), J K B HB F Γ σ H → f Γ Φ → (∀ v d F' H', Grow F H F' H' → BRep K F' H' v d → Φ d → Q v H') → t σ H Q
def SF (K : Fr) (t : TE) (f : WE) : Prop := ∀ (B HB F : Hp) (Γ : GE) (σ : L2.St) (H : Hp) (Q : VK) (Φ : D → Prop), J K B HB F Γ σ H → f Γ Φ →
    (∀ p o d F' H', Grow F H F' H' → F' p = none → H p = none → H' p = some o → RepW K F' o d → Φ d → Q (.ref p) H') → t σ H Q
def STt (K : Fr) (t : TT) (f : WT) : Prop := ∀ (B HB F : Hp) (Γ : GE) (σ : L2.St) (H : Hp) (Q : Bool → Hp → Prop) (Φ : Bool → Prop), J K B HB F Γ σ H → f Γ Φ → (∀ b F' H', Grow F H F' H' → Φ b → Q b H') → t σ H Q
def SA (K : Fr) (t : TA) (f : WA) : Prop := ∀ (B HB F : Hp) (Γ : GE) (σ : L2.St) (H : Hp) (Q : List V → Hp → Prop) (Φ : List D → Prop), J K B HB F Γ σ H → f Γ Φ → (∀ vs ds F' H', Grow F H F' H' → RepL K F' vs ds → Φ ds → Q vs H') → t σ H Q
def SAB (K : Fr) (t : TA) (f : WA) : Prop := ∀ (B HB F : Hp) (Γ : GE) (σ : L2.St) (H : Hp) (Q : List V → Hp → Prop) (Φ : List D → Prop), J K B HB F Γ σ H → f Γ Φ → (∀ vs ds F' H', Grow F H F' H' → BRepL K F' H' vs ds → Φ ds → Q vs H') → t σ H Q
/-- a frozen value -/
structure DE (K : Fr) (X : Cx) (e : Expr) (t : TE) (f : WE) : Prop where
  k : X.K = K
  p : PE X e t
  s : SE K t f
/-- a borrowed value -/
structure DB (K : Fr) (X : Cx) (e : Expr) (t : TE) (f : WE) : Prop where
  k : X.K = K
  p : PE X e t
  s : SB K t f
/-- a new object -/
structure DF (K : Fr) (X : Cx) (e : Expr) (t : TE) (f : WE) : Prop where
  k : X.K = K
  p : PE X e t
  s : SF K t f
structure DT (K : Fr) (X : Cx) (e : Expr) (t : TT) (f : WT) : Prop where
  k : X.K = K
  p : PT X e t
  s : STt K t f
structure DW (K : Fr) (X : Cx) (e : Expr) (t : TT) (f : WT) : Prop where
  k : X.K = K
  p : PW X e t
  s : STt K t f
structure DA (K : Fr) (X : Cx) (es : List Expr) (t : TA) (f : WA) : Prop where
  k : X.K = K
  p : PA X es t
  s : SA K t f
structure DAB (K : Fr) (X : Cx) (es : List Expr) (t : TA) (f : WA) : Prop where
  k : X.K = K
  p : PA X es t
  s : SAB K t f

section
variable {K : Fr} {X : Cx} {e a b c : Expr} {es rest : List Expr} {f fa fb fc : WE} {g ga gb : WT} {h : WA} {pos : Pos} {t ta tb tc : TE} {tg tga tgb : TT} {th : TA}

theorem DE.toB (he : DE K X e t f) : DB K X e t f := by
  obtain ⟨rfl, p, q⟩ := he
  exact ⟨rfl, p, fun B HB F Γ σ H Q Φ j w k => q B HB F Γ σ H Q Φ j w fun v d F' H' g r φ => k v d F' H' g (.inl r) φ⟩
theorem DF.toE (he : DF K X e t f) : DE K X e t f := by
  obtain ⟨rfl, p, q⟩ := he
  exact ⟨rfl, p, fun B HB F Γ σ H Q Φ j w k => q B HB F Γ σ H Q Φ j w fun p o d F' H' g n1 n2 eh r φ => k _ d _ H' (g.frz n2 eh n1) (.ob upd_same (r.mono (same_new n1)).toO) φ⟩
theorem DF.toB (he : DF K X e t f) : DB K X e t f := he.toE.toB

/-! ### names, constants -/
@[simp] def wVar (i : Nat) : WE := fun Γ Φ => ∃ d, Γ[i]? = some (some (.val d)) ∧ Φ d
@[simp] def wBor (i : Nat) : WE := fun Γ Φ => (∃ d, Γ[i]? = some (some (.val d)) ∧ Φ d) ∨ ∃ d, Γ[i]? = some (some (.own d)) ∧ Φ d
theorem de_var (i : Nat) {x : Str} (hk : X.K = K := by rfl) (hN : X.N[i]? = some x := by rfl) (hv : Vis X.env.scope x := by first | exact Or.inl rfl | exact Or.inr (Or.inl rfl) | exact Or.inr (Or.inr rfl)) (hd : (x == ("__debug__" : Str)) = false := by decide)
    (hcd : (x == ("__classdict__" : Str)) = false := by decide) : DE K X (.Name x pos) (tVar i) (wVar i) := by
  cases hk
  refine ⟨rfl, pe_var hN hv hd hcd, fun B HB F Γ σ H Q Φ j w k => ?_⟩
  obtain ⟨d, e, φ⟩ := w
  obtain ⟨v, ev, r⟩ := j.sl i _ e
  exact ⟨v, ev, k v d F H (.refl j.fh) r φ⟩
theorem db_var (i : Nat) {x : Str} (hk : X.K = K := by rfl) (hN : X.N[i]? = some x := by rfl) (hv : Vis X.env.scope x := by first | exact Or.inl rfl | exact Or.inr (Or.inl rfl) | exact Or.inr (Or.inr rfl)) (hd : (x == ("__debug__" : Str)) = false := by decide)
    (hcd : (x == ("__classdict__" : Str)) = false := by decide) : DB K X (.Name x pos) (tVar i) (wBor i) := by
  cases hk
  refine ⟨rfl, pe_var hN hv hd hcd, fun B HB F Γ σ H Q Φ j w k => ?_⟩
  rcases w with ⟨d, e, φ⟩ | ⟨d, e, φ⟩
  · obtain ⟨v, ev, r⟩ := j.sl i _ e
    exact ⟨v, ev, k v d F H (.refl j.fh) (.inl r) φ⟩
  · obtain ⟨a, o, ev, n1, n2, q, r⟩ := j.sl i _ e
    exact ⟨_, ev, k _ d F H (.refl j.fh) (.inr ⟨a, o, rfl, n2, q, r⟩) φ⟩
@[simp] def wC (d : D) : WE := fun _ Φ => Φ d
theorem de_c {v : V} {d : D} (hk : X.K = K) (he : PE X e (tC v)) (r : ∀ F, Rep K F v d) : DE K X e (tC v) (wC d) :=
  ⟨hk, he, fun B HB F Γ σ H Q Φ j w k => k v d F H (.refl j.fh) (r F) w⟩
theorem de_int {i j p} (hk : X.K = K := by rfl) : DE K X (.Constant (.int i) j p) (tC (.int i)) (wC (.int i)) := de_c hk pe_int fun _ => .int i
theorem de_bl {i j p} (hk : X.K = K := by rfl) : DE K X (.Constant (.bool i) j p) (tC (.bl i)) (wC (.bl i)) := de_c hk pe_bl fun _ => .bl i
theorem de_str {i j p} (hk : X.K = K := by rfl) : DE K X (.Constant (.str i) j p) (tC (.str i)) (wC (.str i)) := de_c hk pe_str fun _ => .str i
theorem de_non {j p} (hk : X.K = K := by rfl) : DE K X (.Constant .none j p) (tC .non) (wC .non) := de_c hk pe_non fun _ => .non
/-- a module's constant -/
theorem de_gint {x : Str} {i : Int} {t : Tok} {p : Pos} (hk : X.K = K := by rfl) (hg : Gl X x) (hm : X.mg x = some (.int i t)) (hd : (x == ("__debug__" : Str)) = false := by decide) : DE K X (.Name x p) (tC (.int i)) (wC (.int i)) :=
  de_c hk (pe_glob (v := .int i) hg hm ⟨t, rfl⟩ hd) fun _ => .int i

/-! ### two operands -/
abbrev W2 := D → D → (D → Prop) → Prop
def DOp2 (K : Fr) (r : R2) (w : W2) : Prop := ∀ (F H : Hp) (x y : V) (d e : D) (Q : VK) (Φ : D → Prop), Same F H → BRep K F H x d → BRep K F H y e → w d e Φ →
  (∀ v z F' H', Grow F H F' H' → Rep K F' v z → Φ z → Q v H') → r x y H Q
def DFp2 (K : Fr) (r : R2) (w : W2) : Prop := ∀ (F H : Hp) (x y : V) (d e : D) (Q : VK) (Φ : D → Prop), Same F H → BRep K F H x d → BRep K F H y e → w d e Φ →
  (∀ p o z F' H', Grow F H F' H' → F' p = none → H p = none → H' p = some o → RepW K F' o z → Φ z → Q (.ref p) H') → r x y H Q
@[simp] def w2 (w : W2) (fa fb : WE) : WE := fun Γ Φ => fa Γ fun x => fb Γ fun y => w x y Φ
theorem two_run {ta tb : TE} {r : R2} {w : W2} {B HB F : Hp} {Γ : GE} {σ : L2.St} {H : Hp} {Q : VK} {Φ : D → Prop}
    (qa : ∀ (B HB F : Hp) (Γ : GE) (σ : L2.St) (H : Hp) (Q : VK) (Φ : D → Prop), J K B HB F Γ σ H → fa Γ Φ → (∀ v d F' H', Grow F H F' H' → BRep K F' H' v d → Φ d → Q v H') → ta σ H Q)
    (qb : ∀ (B HB F : Hp) (Γ : GE) (σ : L2.St) (H : Hp) (Q : VK) (Φ : D → Prop), J K B HB F Γ σ H → fb Γ Φ → (∀ v d F' H', Grow F H F' H' → BRep K F' H' v d → Φ d → Q v H') → tb σ H Q)
    (j : J K B HB F Γ σ H) (hw : w2 w fa fb Γ Φ) (k : ∀ F' H' x y d e, Grow F H F' H' → J K B HB F' Γ σ H' → BRep K F' H' x d → BRep K F' H' y e → w d e Φ → r x y H' Q) : tOp r ta tb σ H Q := by
  refine qa B HB F Γ σ H _ _ j hw fun x d F1 H1 g1 r1 w1 => ?_
  refine qb B HB F1 Γ σ H1 _ _ (j.grow g1) w1 fun y e F2 H2 g2 r2 w2 => ?_
  exact k F2 H2 x y d e (g1.trans g2) ((j.grow g1).grow g2) (r1.grow g2) r2 w2
theorem de_op {op : Operator} {r : R2} {w : W2} (ho : X.K = K → OpR X (binaryOp op) r) (hd : DOp2 K r w) (ha : DB K X a ta fa) (hb : DB K X b tb fb) : DE K X (.BinOp a op b pos) (tOp r ta tb) (w2 w fa fb) := by
  obtain ⟨rfl, pa, qa⟩ := ha
  obtain ⟨_, pb, qb⟩ := hb
  refine ⟨rfl, pe_op (ho rfl) pa pb, fun B HB F Γ σ H Q Φ j w k => two_run qa qb j w fun F' H' x y d e g j' rx ry w' => ?_⟩
  exact hd F' H' x y d e Q Φ j'.fh rx ry w' fun v z F2 H2 g2 r φ => k v z F2 H2 (g.trans g2) r φ
theorem df_op {op : Operator} {r : R2} {w : W2} (ho : X.K = K → OpR X (binaryOp op) r) (hd : DFp2 K r w) (ha : DB K X a ta fa) (hb : DB K X b tb fb) : DF K X (.BinOp a op b pos) (tOp r ta tb) (w2 w fa fb) := by
  obtain ⟨rfl, pa, qa⟩ := ha
  obtain ⟨_, pb, qb⟩ := hb
  refine ⟨rfl, pe_op (ho rfl) pa pb, fun B HB F Γ σ H Q Φ j w k => two_run qa qb j w fun F' H' x y d e g j' rx ry w' => ?_⟩
  exact hd F' H' x y d e Q Φ j'.fh rx ry w' fun p o z F2 H2 g2 n1 n2 eh r φ => k p o z F2 H2 (g.trans g2) n1 (g.hh.free n2) eh r φ
theorem de_cmp {op : CmpOp} {r : R2} {w : W2} (ho : X.K = K → OpR X (compareOp op) r) (hd : DOp2 K r w) (ha : DB K X a ta fa) (hb : DB K X b tb fb) (hm : behindInMarks op b = false) : DE K X (.Compare a [op] [b] pos) (tOp r ta tb) (w2 w fa fb) := by
  obtain ⟨rfl, pa, qa⟩ := ha
  obtain ⟨_, pb, qb⟩ := hb
  refine ⟨rfl, pe_cmpR (ho rfl) pa pb hm, fun B HB F Γ σ H Q Φ j w k => two_run qa qb j w fun F' H' x y d e g j' rx ry w' => ?_⟩
  exact hd F' H' x y d e Q Φ j'.fh rx ry w' fun v z F2 H2 g2 r φ => k v z F2 H2 (g.trans g2) r φ
/-- a value that is a bool, as a test -/
@[simp] def wTest (f : WE) : WT := fun Γ Φ => f Γ fun d => ∃ k, d = .bl k ∧ Φ k
theorem dt_cmp {op : CmpOp} {r : R2} {w : W2} (ho : X.K = K → OpR X (compareOp op) r) (hd : DOp2 K r w) (ha : DB K X a ta fa) (hb : DB K X b tb fb) (hm : behindInMarks op b = false) : DT K X (.Compare a [op] [b] pos) (tTest (tOp r ta tb)) (wTest (w2 w fa fb)) := by
  obtain ⟨rfl, pa, qa⟩ := ha
  obtain ⟨_, pb, qb⟩ := hb
  refine ⟨rfl, pt_cmpR (ho rfl) pa pb hm, fun B HB F Γ σ H Q Φ j w k => two_run (w := _) (Φ := fun d => ∃ k, d = .bl k ∧ Φ k) qa qb j w fun F' H' x y d e g j' rx ry w' => ?_⟩
  refine hd F' H' x y d e _ _ j'.fh rx ry w' fun v z F2 H2 g2 r φ => ?_
  obtain ⟨c, rfl, φ⟩ := φ
  exact ⟨c, r.bl_inv, k c F2 H2 (g.trans g2) φ⟩
/-- a op b op' c -/
@[simp] def wChain (w w' : W2) (fa fb fc : WE) : WE := fun Γ Φ => fa Γ fun x => fb Γ fun y => w x y fun z => ∃ k, z = .bl k ∧ if k = true then fc Γ fun u => w' y u Φ else Φ (.bl false)
theorem chain_run {ta tb tc : TE} {r r' : R2} {w w' : W2} {B HB F : Hp} {Γ : GE} {σ : L2.St} {H : Hp} {Q : VK} {Φ : D → Prop}
    (qa : ∀ (B HB F : Hp) (Γ : GE) (σ : L2.St) (H : Hp) (Q : VK) (Φ : D → Prop), J K B HB F Γ σ H → fa Γ Φ → (∀ v d F' H', Grow F H F' H' → BRep K F' H' v d → Φ d → Q v H') → ta σ H Q)
    (qb : ∀ (B HB F : Hp) (Γ : GE) (σ : L2.St) (H : Hp) (Q : VK) (Φ : D → Prop), J K B HB F Γ σ H → fb Γ Φ → (∀ v d F' H', Grow F H F' H' → BRep K F' H' v d → Φ d → Q v H') → tb σ H Q)
    (qc : ∀ (B HB F : Hp) (Γ : GE) (σ : L2.St) (H : Hp) (Q : VK) (Φ : D → Prop), J K B HB F Γ σ H → fc Γ Φ → (∀ v d F' H', Grow F H F' H' → BRep K F' H' v d → Φ d → Q v H') → tc σ H Q)
    (hd : DOp2 K r w) (hd' : DOp2 K r' w')
    (j : J K B HB F Γ σ H) (hw : wChain w w' fa fb fc Γ Φ) (k : ∀ v d F' H', Grow F H F' H' → Rep K F' v d → Φ d → Q v H') : tChain r r' ta tb tc σ H Q := by
  refine qa B HB F Γ σ H _ _ j hw fun x d F1 H1 g1 r1 w1 => ?_
  refine qb B HB F1 Γ σ H1 _ _ (j.grow g1) w1 fun y e F2 H2 g2 r2 w2 => ?_
  have j2 := (j.grow g1).grow g2
  refine hd F2 H2 x y d e _ _ j2.fh (r1.grow g2) r2 w2 fun v z F3 H3 g3 r3 φ => ?_
  obtain ⟨c, rfl, φ⟩ := φ
  refine ⟨c, r3.bl_inv, ?_⟩
  have j3 := j2.grow g3
  cases c with
  | false => exact k _ _ F3 H3 ((g1.trans g2).trans g3) (.bl false) φ
  | true =>
    refine qc B HB F3 Γ σ H3 _ _ j3 φ fun u dd F4 H4 g4 r4 w4 => ?_
    exact hd' F4 H4 y u e dd _ _ (j3.grow g4).fh ((r2.grow g3).grow g4) r4 w4 fun v z F5 H5 g5 r5 φ5 => k v z F5 H5 ((((g1.trans g2).trans g3).trans g4).trans g5) r5 φ5
theorem de_chain {op op' : CmpOp} {r r' : R2} {w w' : W2} (ho : X.K = K → OpR X (compareOp op) r) (hd : DOp2 K r w) (ho' : X.K = K → OpR X (compareOp op') r') (hd' : DOp2 K r' w') (ha : DB K X a ta fa) (hb : DB K X b tb fb) (hc : DB K X c tc fc)
    (hm : lastMarks [op, op'] [b, c] = false := by with_unfolding_all rfl) : DE K X (.Compare a [op, op'] [b, c] pos) (tChain r r' ta tb tc) (wChain w w' fa fb fc) := by
  obtain ⟨rfl, pa, qa⟩ := ha
  obtain ⟨_, pb, qb⟩ := hb
  obtain ⟨_, pc, qc⟩ := hc
  exact ⟨rfl, pe_chain (ho rfl) (ho' rfl) pa pb pc hm, fun B HB F Γ σ H Q Φ j w k => chain_run qa qb qc hd hd' j w k⟩
theorem dt_chain {op op' : CmpOp} {r r' : R2} {w w' : W2} (ho : X.K = K → OpR X (compareOp op) r) (hd : DOp2 K r w) (ho' : X.K = K → OpR X (compareOp op') r') (hd' : DOp2 K r' w') (ha : DB K X a ta fa) (hb : DB K X b tb fb) (hc : DB K X c tc fc)
    (hm : lastMarks [op, op'] [b, c] = false := by with_unfolding_all rfl) : DT K X (.Compare a [op, op'] [b, c] pos) (tTest (tChain r r' ta tb tc)) (wTest (wChain w w' fa fb fc)) := by
  obtain ⟨rfl, pa, qa⟩ := ha
  obtain ⟨_, pb, qb⟩ := hb
  obtain ⟨_, pc, qc⟩ := hc
  refine ⟨rfl, pt_chain (ho rfl) (ho' rfl) pa pb pc hm, fun B HB F Γ σ H Q Φ j w k => chain_run qa qb qc hd hd' j w fun v d F' H' g r φ => ?_⟩
  obtain ⟨c, rfl, φ⟩ := φ
  exact ⟨c, r.bl_inv, k c F' H' g φ⟩

/-! ### one operand -/
abbrev W1 := D → (D → Prop) → Prop
@[simp] def w1 (w : W1) (fa : WE) : WE := fun Γ Φ => fa Γ fun x => w x Φ
@[simp] def wNeg : W1 | .int i, Φ => Φ (.int (-i)) | _, _ => False
theorem de_neg (ha : DE K X a ta fa) : DE K X (.UnaryOp .USub a pos) (tUn (rU fun i => .int (-i)) ta) (w1 wNeg fa) := by
  obtain ⟨rfl, pa, qa⟩ := ha
  refine ⟨rfl, pe_un un_neg pa, fun B HB F Γ σ H Q Φ j w k => qa B HB F Γ σ H _ _ j w fun v d F' H' g r φ => ?_⟩
  cases d with
  | int i => exact ⟨i, r.int_inv, k _ _ F' H' g (.int _) φ⟩
  | _ => exact φ.elim
/-- is None -/
@[simp] def wIsN (n : Bool) : W1 := fun d Φ => Φ (.bl (match d with | .non => !n | _ => n))
theorem isN_of {K : Fr} {F H : Hp} {v : V} {d : D} (r : BRep K F H v d) : decide (v = .non) = (match d with | .non => true | _ => false) := by
  rcases r with r | ⟨a, o, rfl, _, _, r⟩
  · cases r with
    | ob _ r => cases r <;> simp
    | _ => simp
  · cases r <;> simp
theorem de_isN {j p} (ha : DB K X a ta fa) : DE K X (.Compare a [.Is] [.Constant .none j p] pos) (tIsN ta) (w1 (wIsN false) fa) := by
  obtain ⟨rfl, pa, qa⟩ := ha
  refine ⟨rfl, pe_cmp (pc_isN pa) rfl, fun B HB F Γ σ H Q Φ j w k => qa B HB F Γ σ H _ _ j w fun v d F' H' g r φ => ?_⟩
  rw [isN_of r]
  exact k _ _ F' H' g (.bl _) (by cases d <;> exact φ)
theorem de_notN {j p} (ha : DB K X a ta fa) : DE K X (.Compare a [.IsNot] [.Constant .none j p] pos) (tNotN ta) (w1 (wIsN true) fa) := by
  obtain ⟨rfl, pa, qa⟩ := ha
  refine ⟨rfl, pe_cmp (pc_notN pa) rfl, fun B HB F Γ σ H Q Φ j w k => qa B HB F Γ σ H _ _ j w fun v d F' H' g r φ => ?_⟩
  rw [isN_of r]
  exact k _ _ F' H' g (.bl _) (by cases d <;> exact φ)

/-! ### tests -/
theorem dt_val (he : DE K X e t f) (hp : ∀ whole, isTrue e X.env whole = (do let v ← whole; standAt e.pos; holding [v] (truthy v)) := by intro _; rfl) : DT K X e (tB t) (wTest f) := by
  obtain ⟨rfl, p, q⟩ := he
  refine ⟨rfl, pt_val p hp, fun B HB F Γ σ H Q Φ j w k => q B HB F Γ σ H _ _ j w fun v d F' H' g r φ => ?_⟩
  obtain ⟨c, rfl, φ⟩ := φ
  exact ⟨c, r.bl_inv, k c F' H' g φ⟩
/-- is None, as a test -/
theorem dt_isN {j p} (ha : DB K X a ta fa) : DT K X (.Compare a [.Is] [.Constant .none j p] pos) (tB (tIsN ta)) (wTest (w1 (wIsN false) fa)) := by
  obtain ⟨rfl, pa, qa⟩ := ha
  refine ⟨rfl, pt_cmp (pc_isN pa) rfl, fun B HB F Γ σ H Q Φ j w k => qa B HB F Γ σ H _ _ j w fun v d F' H' g r φ => ?_⟩
  rw [isN_of r]
  obtain ⟨c, e, φ⟩ := φ
  refine ⟨_, rfl, k _ F' H' g ?_⟩
  cases d <;> (cases e; exact φ)
theorem dt_notN {j p} (ha : DB K X a ta fa) : DT K X (.Compare a [.IsNot] [.Constant .none j p] pos) (tB (tNotN ta)) (wTest (w1 (wIsN true) fa)) := by
  obtain ⟨rfl, pa, qa⟩ := ha
  refine ⟨rfl, pt_cmp (pc_notN pa) rfl, fun B HB F Γ σ H Q Φ j w k => qa B HB F Γ σ H _ _ j w fun v d F' H' g r φ => ?_⟩
  rw [isN_of r]
  obtain ⟨c, e, φ⟩ := φ
  refine ⟨_, rfl, k _ F' H' g ?_⟩
  cases d <;> (cases e; exact φ)
/-- by truth -/
@[simp] def truD : D → (Bool → Prop) → Prop
  | .non, Φ => Φ false
  | .bl b, Φ => Φ b
  | .int i, Φ => Φ (i != 0)
  | .str y, Φ => y.length ≤ sizeLine ∧ Φ ((y.length : Int) != 0)
  | .lst xs, Φ => Φ (!xs.isEmpty)
  | .tup xs, Φ => Φ (!xs.isEmpty)
  | .scr xs, Φ => Φ (!xs.isEmpty)
  | .dK xs, Φ => Φ (!xs.isEmpty)
  | .dT xs, Φ => False
theorem RepL.emp {K : Fr} {F : Hp} {vs : List V} {ds : List D} (r : RepL K F vs ds) : vs.isEmpty = ds.isEmpty := by cases r <;> rfl
theorem RepK.emp {K : Fr} {F : Hp} {vs : List (Key × V)} {ds : List (Key × D)} (r : RepK K F vs ds) : vs.isEmpty = ds.isEmpty := by cases r <;> rfl
theorem tru_of {K : Fr} {F H : Hp} {v : V} {d : D} {Φ : Bool → Prop} (s : Same F H) (r : BRep K F H v d) (h : truD d Φ) : ∃ k, TruV K v H k ∧ Φ k := by
  cases d with
  | non => rw [r.non]; exact ⟨false, rfl, h⟩
  | bl b => rw [r.bl]; exact ⟨_, rfl, h⟩
  | int b => rw [r.int]; exact ⟨_, rfl, h⟩
  | str b => rw [r.str]; exact ⟨_, ⟨h.1, rfl⟩, h.2⟩
  | lst xs => obtain ⟨a, vs, rfl, e, q⟩ := r.lst s; exact ⟨_, .inl ⟨vs, .of e, rfl⟩, by rw [q.emp]; exact h⟩
  | tup xs => obtain ⟨a, vs, rfl, e, q⟩ := r.tup s; exact ⟨_, .inr (.inl ⟨vs, .of e, rfl⟩), by rw [q.emp]; exact h⟩
  | scr xs => obtain ⟨a, rfl, e⟩ := r.scr s; have h' : Φ (!xs.isEmpty) := h; exact ⟨_, .inl ⟨_, e, rfl⟩, by simpa using h'⟩
  | dK xs =>
    rcases r with r | ⟨a, o, rfl, n, q, r⟩
    · cases r with
      | ob e r => cases r with | dK r => exact ⟨_, .inr (.inr ⟨_, s _ _ e, rfl⟩), by rw [r.emp]; exact h⟩
    · cases r with | dK r => exact ⟨_, .inr (.inr ⟨_, q, rfl⟩), by rw [r.emp]; exact h⟩
  | dT xs => exact h.elim
def tTru (K : Fr) (t : TE) : TT := fun σ H Q => t σ H fun x H' => ∃ k, TruV K x H' k ∧ Q k H'
@[simp] def wTru (f : WE) : WT := fun Γ Φ => f Γ fun d => truD d Φ
theorem dt_tru (he : DB K X e t f) (hp : ∀ whole, isTrue e X.env whole = (do let v ← whole; standAt e.pos; holding [v] (truthy v)) := by intro _; rfl) : DT K X e (tTru K t) (wTru f) := by
  obtain ⟨rfl, p, q⟩ := he
  refine ⟨rfl, pt_truth p hp, fun B HB F Γ σ H Q Φ j w k => q B HB F Γ σ H _ _ j w fun v d F' H' g r φ => ?_⟩
  obtain ⟨c, h1, h2⟩ := tru_of (j.grow g).fh r φ
  exact ⟨c, h1, k c F' H' g h2⟩
@[simp] def wAnd (f g : WT) : WT := fun Γ Φ => f Γ fun c => if c = true then g Γ Φ else Φ false
@[simp] def wOr (f g : WT) : WT := fun Γ Φ => f Γ fun c => if c = true then Φ true else g Γ Φ
@[simp] def wNot (f : WT) : WT := fun Γ Φ => f Γ fun c => Φ (!c)
theorem DW.toT (h : DW K X e tg g) : DT K X e tg g := by
  obtain ⟨rfl, p, q⟩ := h
  exact ⟨rfl, p.pt, q⟩
theorem dw_and1 (ha : DT K X a tg g) : DW K X (.BoolOp .And [a] pos) tg g := by
  obtain ⟨rfl, p, q⟩ := ha
  exact ⟨rfl, pw_and1 p, q⟩
theorem dw_or1 (ha : DT K X a tg g) : DW K X (.BoolOp .Or [a] pos) tg g := by
  obtain ⟨rfl, p, q⟩ := ha
  exact ⟨rfl, pw_or1 p, q⟩
theorem dw_and (ha : DT K X a tga ga) (hb : DW K X (.BoolOp .And (b :: rest) pos) tgb gb) : DW K X (.BoolOp .And (a :: b :: rest) pos) (tAnd tga tgb) (wAnd ga gb) := by
  obtain ⟨rfl, p, q⟩ := ha
  obtain ⟨_, p', q'⟩ := hb
  refine ⟨rfl, pw_and p p', fun B HB F Γ σ H Q Φ j w k => q B HB F Γ σ H _ _ j w fun c F' H' g φ => ?_⟩
  cases c with
  | true => exact q' B HB F' Γ σ H' _ _ (j.grow g) φ fun b F2 H2 g2 φ2 => k b F2 H2 (g.trans g2) φ2
  | false => exact k _ F' H' g φ
theorem dw_or (ha : DT K X a tga ga) (hb : DW K X (.BoolOp .Or (b :: rest) pos) tgb gb) : DW K X (.BoolOp .Or (a :: b :: rest) pos) (tOr tga tgb) (wOr ga gb) := by
  obtain ⟨rfl, p, q⟩ := ha
  obtain ⟨_, p', q'⟩ := hb
  refine ⟨rfl, pw_or p p', fun B HB F Γ σ H Q Φ j w k => q B HB F Γ σ H _ _ j w fun c F' H' g φ => ?_⟩
  cases c with
  | true => exact k _ F' H' g φ
  | false => exact q' B HB F' Γ σ H' _ _ (j.grow g) φ fun b F2 H2 g2 φ2 => k b F2 H2 (g.trans g2) φ2
theorem dt_not (ha : DT K X a tg g) : DT K X (.UnaryOp .Not a pos) (tNot tg) (wNot g) := by
  obtain ⟨rfl, p, q⟩ := ha
  exact ⟨rfl, pt_not p, fun B HB F Γ σ H Q Φ j w k => q B HB F Γ σ H _ _ j w fun c F' H' g φ => k _ F' H' g φ⟩
/-- as values -/
@[simp] def wAndV (f g : WE) : WE := fun Γ Φ => f Γ fun x => ∃ c, x = .bl c ∧ if c = true then g Γ Φ else Φ (.bl false)
@[simp] def wOrV (f g : WE) : WE := fun Γ Φ => f Γ fun x => ∃ c, x = .bl c ∧ if c = true then Φ (.bl true) else g Γ Φ
theorem de_one {op} (h : DE K X a t f) : DE K X (.BoolOp op [a] pos) t f := by
  obtain ⟨rfl, p, q⟩ := h
  exact ⟨rfl, pe_one p, q⟩
theorem de_and (ha : DE K X a ta fa) (hb : DE K X (.BoolOp .And (b :: rest) pos) tb fb) : DE K X (.BoolOp .And (a :: b :: rest) pos) (tAndV ta tb) (wAndV fa fb) := by
  obtain ⟨rfl, p, q⟩ := ha
  obtain ⟨_, p', q'⟩ := hb
  refine ⟨rfl, pe_and p p', fun B HB F Γ σ H Q Φ j w k => q B HB F Γ σ H _ _ j w fun v d F' H' g r φ => ?_⟩
  obtain ⟨c, rfl, φ⟩ := φ
  refine ⟨c, r.bl_inv, ?_⟩
  cases c with
  | true => exact q' B HB F' Γ σ H' _ _ (j.grow g) φ fun v d F2 H2 g2 r2 φ2 => k v d F2 H2 (g.trans g2) r2 φ2
  | false => exact k _ _ F' H' g (.bl _) φ
theorem de_or (ha : DE K X a ta fa) (hb : DE K X (.BoolOp .Or (b :: rest) pos) tb fb) : DE K X (.BoolOp .Or (a :: b :: rest) pos) (tOrV ta tb) (wOrV fa fb) := by
  obtain ⟨rfl, p, q⟩ := ha
  obtain ⟨_, p', q'⟩ := hb
  refine ⟨rfl, pe_or p p', fun B HB F Γ σ H Q Φ j w k => q B HB F Γ σ H _ _ j w fun v d F' H' g r φ => ?_⟩
  obtain ⟨c, rfl, φ⟩ := φ
  refine ⟨c, r.bl_inv, ?_⟩
  cases c with
  | false => exact q' B HB F' Γ σ H' _ _ (j.grow g) φ fun v d F2 H2 g2 r2 φ2 => k v d F2 H2 (g.trans g2) r2 φ2
  | true => exact k _ _ F' H' g (.bl _) φ
@[simp] def wNotV (f : WE) : WE := fun Γ Φ => f Γ fun x => ∃ c, x = .bl c ∧ Φ (.bl (!c))
theorem de_notV (ha : DE K X a ta fa) : DE K X (.UnaryOp .Not a pos) (tNotV ta) (wNotV fa) := by
  obtain ⟨rfl, p, q⟩ := ha
  refine ⟨rfl, pe_not p, fun B HB F Γ σ H Q Φ j w k => q B HB F Γ σ H _ _ j w fun v d F' H' g r φ => ?_⟩
  obtain ⟨c, rfl, φ⟩ := φ
  exact ⟨c, r.bl_inv, k _ _ F' H' g (.bl _) φ⟩
@[simp] def wIte (g : WT) (fa fb : WE) : WE := fun Γ Φ => g Γ fun c => if c = true then fa Γ Φ else fb Γ Φ
theorem de_ite (hc : DT K X c tg g) (ha : DE K X a ta fa) (hb : DE K X b tb fb) : DE K X (.IfExp c a b pos) (tIf tg ta tb) (wIte g fa fb) := by
  obtain ⟨rfl, p, q⟩ := hc
  obtain ⟨_, pa, qa⟩ := ha
  obtain ⟨_, pb, qb⟩ := hb
  refine ⟨rfl, pe_ifExp p pa pb, fun B HB F Γ σ H Q Φ j w k => q B HB F Γ σ H _ _ j w fun c F' H' g φ => ?_⟩
  cases c with
  | true => exact qa B HB F' Γ σ H' _ _ (j.grow g) φ fun v d F2 H2 g2 r2 φ2 => k v d F2 H2 (g.trans g2) r2 φ2
  | false => exact qb B HB F' Γ σ H' _ _ (j.grow g) φ fun v d F2 H2 g2 r2 φ2 => k v d F2 H2 (g.trans g2) r2 φ2

/-! ### arguments, displays -/
@[simp] def wNil : WA := fun _ Φ => Φ []
@[simp] def wCons (f : WE) (h : WA) : WA := fun Γ Φ => f Γ fun x => h Γ fun xs => Φ (x :: xs)
theorem da_nil (hk : X.K = K := by rfl) : DA K X [] tNil wNil := ⟨hk, pa_nil, fun B HB F Γ σ H Q Φ j w k => k [] [] F H (.refl j.fh) .nil w⟩
theorem da_cons (ha : DE K X e t f) (hr : DA K X es th h) (hs : starEach (e :: es) X.env = (false, eval e X.env) :: starEach es X.env := by rfl) : DA K X (e :: es) (tCons t th) (wCons f h) := by
  obtain ⟨rfl, p, q⟩ := ha
  obtain ⟨_, p', q'⟩ := hr
  refine ⟨rfl, pa_cons p p' hs, fun B HB F Γ σ H Q Φ j w k => q B HB F Γ σ H _ _ j w fun v d F' H' g r φ => ?_⟩
  exact q' B HB F' Γ σ H' _ _ (j.grow g) φ fun vs ds F2 H2 g2 r2 φ2 => k _ _ F2 H2 (g.trans g2) (.cons (r.mono g2.ff) r2) φ2
theorem dab_nil (hk : X.K = K := by rfl) : DAB K X [] tNil wNil := ⟨hk, pa_nil, fun B HB F Γ σ H Q Φ j w k => k [] [] F H (.refl j.fh) .nil w⟩
theorem dab_cons (ha : DB K X e t f) (hr : DAB K X es th h) (hs : starEach (e :: es) X.env = (false, eval e X.env) :: starEach es X.env := by rfl) : DAB K X (e :: es) (tCons t th) (wCons f h) := by
  obtain ⟨rfl, p, q⟩ := ha
  obtain ⟨_, p', q'⟩ := hr
  refine ⟨rfl, pa_cons p p' hs, fun B HB F Γ σ H Q Φ j w k => q B HB F Γ σ H _ _ j w fun v d F' H' g r φ => ?_⟩
  exact q' B HB F' Γ σ H' _ _ (j.grow g) φ fun vs ds F2 H2 g2 r2 φ2 => k _ _ F2 H2 (g.trans g2) (.cons (r.grow g2) r2) φ2
@[simp] def wLst (h : WA) : WE := fun Γ Φ => h Γ fun ds => ds.length ≤ sizeLine ∧ Φ (.lst ds)
@[simp] def wTup (h : WA) : WE := fun Γ Φ => h Γ fun ds => ds.length ≤ sizeLine ∧ Φ (.tup ds)
theorem df_lst (ha : DA K X es th h) : DF K X (.List es pos) (tLst th) (wLst h) := by
  obtain ⟨rfl, p, q⟩ := ha
  refine ⟨rfl, pe_lst p, fun B HB F Γ σ H Q Φ j w k => q B HB F Γ σ H _ _ j w fun vs ds F' H' g r φ => ?_⟩
  refine ⟨by rw [r.length]; exact φ.1, fun p n => ?_⟩
  have j' := j.grow g
  exact k p _ _ F' _ (g.trans (.newH j'.fh n)) (j'.fh.free n) (g.hh.free n) upd_same (.lst r) φ.2
theorem de_tup {x1} (ha : DA K X es th h) : DE K X (.Tuple es x1 pos) (tTup th) (wTup h) := by
  obtain ⟨rfl, p, q⟩ := ha
  refine ⟨rfl, pe_tup p, fun B HB F Γ σ H Q Φ j w k => q B HB F Γ σ H _ _ j w fun vs ds F' H' g r φ => ?_⟩
  refine ⟨by rw [r.length]; exact φ.1, fun p n => ?_⟩
  have j' := j.grow g
  have gn := Grow.new (p := p) (o := .tup vs) j'.fh n
  exact k _ _ _ _ (g.trans gn) (.ob upd_same (.tup (r.mono gn.ff))) φ.2

/-! ### calls of built-ins -/
abbrev WC := List D → (D → Prop) → Prop
def DCall (K : Fr) (r : List V → Hp → VK → Prop) (w : WC) : Prop := ∀ (F H : Hp) (vs : List V) (ds : List D) (Q : VK) (Φ : D → Prop), Same F H → BRepL K F H vs ds → w ds Φ →
  (∀ v z F' H', Grow F H F' H' → Rep K F' v z → Φ z → Q v H') → r vs H Q
def DFCall (K : Fr) (r : List V → Hp → VK → Prop) (w : WC) : Prop := ∀ (F H : Hp) (vs : List V) (ds : List D) (Q : VK) (Φ : D → Prop), Same F H → BRepL K F H vs ds → w ds Φ →
  (∀ p o z F' H', Grow F H F' H' → F' p = none → H p = none → H' p = some o → RepW K F' o z → Φ z → Q (.ref p) H') → r vs H Q
@[simp] def wCall (w : WC) (h : WA) : WE := fun Γ Φ => h Γ fun ds => w ds Φ
theorem de_blt {x : Str} {id : String} {r : List V → Hp → VK → Prop} {w : WC} {p : Pos} (hc : X.K = K → CallR X (.builtin id) r) (hd : DCall K r w) (hm : X.mg x = none) (ha : DAB K X (e :: es) th h) (hg : Gl X x := by rfl) (hv : bootBuiltins x = some (.builtin id) := by decide +kernel) (hn : x ≠ "__name__" := by decide) (hdb : (x == ("__debug__" : Str)) = false := by decide)
    (he : starEach (e :: es) X.env = (false, eval e X.env) :: starEach es X.env := by rfl) (hpl : (backTo pos (starEach es X.env)).any (·.1) = false := by rfl) : DE K X (.Call (.Name x p) (e :: es) [] pos) (tCB r th) (wCall w h) := by
  obtain ⟨rfl, pt, q⟩ := ha
  refine ⟨rfl, pe_callB (hc rfl) hg hm hv pt hn hdb he hpl, fun B HB F Γ σ H Q Φ j w k => q B HB F Γ σ H _ _ j w fun vs ds F' H' g r φ => ?_⟩
  exact hd F' H' vs ds Q Φ (j.grow g).fh r φ fun v z F2 H2 g2 r2 φ2 => k v z F2 H2 (g.trans g2) r2 φ2
theorem df_blt {x : Str} {id : String} {r : List V → Hp → VK → Prop} {w : WC} {p : Pos} (hc : X.K = K → CallR X (.builtin id) r) (hd : DFCall K r w) (hm : X.mg x = none) (ha : DAB K X (e :: es) th h) (hg : Gl X x := by rfl) (hv : bootBuiltins x = some (.builtin id) := by decide +kernel) (hn : x ≠ "__name__" := by decide) (hdb : (x == ("__debug__" : Str)) = false := by decide)
    (he : starEach (e :: es) X.env = (false, eval e X.env) :: starEach es X.env := by rfl) (hpl : (backTo pos (starEach es X.env)).any (·.1) = false := by rfl) : DF K X (.Call (.Name x p) (e :: es) [] pos) (tCB r th) (wCall w h) := by
  obtain ⟨rfl, pt, q⟩ := ha
  refine ⟨rfl, pe_callB (hc rfl) hg hm hv pt hn hdb he hpl, fun B HB F Γ σ H Q Φ j w k => q B HB F Γ σ H _ _ j w fun vs ds F' H' g r φ => ?_⟩
  exact hd F' H' vs ds Q Φ (j.grow g).fh r φ fun p o z F2 H2 g2 n1 n2 eh r2 φ2 => k p o z F2 H2 (g.trans g2) n1 (g.hh.free n2) eh r2 φ2
theorem de_ty {x : Str} {T : String} {r : List V → Hp → VK → Prop} {w : WC} {p : Pos} (hc : X.K = K → CallR X (.type T) r) (hd : DCall K r w) (hm : X.mg x = none) (ha : DAB K X (e :: es) th h) (hg : Gl X x := by rfl) (hv : bootBuiltins x = some (.type T) := by decide +kernel) (hn : x ≠ "__name__" := by decide) (hdb : (x == ("__debug__" : Str)) = false := by decide)
    (he : starEach (e :: es) X.env = (false, eval e X.env) :: starEach es X.env := by rfl) (hpl : (backTo pos (starEach es X.env)).any (·.1) = false := by rfl) : DE K X (.Call (.Name x p) (e :: es) [] pos) (tCB r th) (wCall w h) := by
  obtain ⟨rfl, pt, q⟩ := ha
  refine ⟨rfl, pe_callTy (hc rfl) hg hm hv pt hn hdb he hpl, fun B HB F Γ σ H Q Φ j w k => q B HB F Γ σ H _ _ j w fun vs ds F' H' g r φ => ?_⟩
  exact hd F' H' vs ds Q Φ (j.grow g).fh r φ fun v z F2 H2 g2 r2 φ2 => k v z F2 H2 (g.trans g2) r2 φ2
theorem df_ty {x : Str} {T : String} {r : List V → Hp → VK → Prop} {w : WC} {p : Pos} (hc : X.K = K → CallR X (.type T) r) (hd : DFCall K r w) (hm : X.mg x = none) (ha : DAB K X (e :: es) th h) (hg : Gl X x := by rfl) (hv : bootBuiltins x = some (.type T) := by decide +kernel) (hn : x ≠ "__name__" := by decide) (hdb : (x == ("__debug__" : Str)) = false := by decide)
    (he : starEach (e :: es) X.env = (false, eval e X.env) :: starEach es X.env := by rfl) (hpl : (backTo pos (starEach es X.env)).any (·.1) = false := by rfl) : DF K X (.Call (.Name x p) (e :: es) [] pos) (tCB r th) (wCall w h) := by
  obtain ⟨rfl, pt, q⟩ := ha
  refine ⟨rfl, pe_callTy (hc rfl) hg hm hv pt hn hdb he hpl, fun B HB F Γ σ H Q Φ j w k => q B HB F Γ σ H _ _ j w fun vs ds F' H' g r φ => ?_⟩
  exact hd F' H' vs ds Q Φ (j.grow g).fh r φ fun p o z F2 H2 g2 n1 n2 eh r2 φ2 => k p o z F2 H2 (g.trans g2) n1 (g.hh.free n2) eh r2 φ2

/-! ### items, slices -/
theorem de_ix {r : R2} {w : W2} (hr : X.K = K → IxR X r) (hd : DOp2 K r w) (ha : DB K X a ta fa) (hb : DB K X b tb fb) (hs : PlainIx b := by exact fun _ _ => rfl) : DE K X (.Subscript a b pos) (tOp r ta tb) (w2 w fa fb) := by
  obtain ⟨rfl, pa, qa⟩ := ha
  obtain ⟨_, pb, qb⟩ := hb
  refine ⟨rfl, pe_ix (hr rfl) pa pb hs, fun B HB F Γ σ H Q Φ j w k => two_run qa qb j w fun F' H' x y d e g j' rx ry w' => ?_⟩
  exact hd F' H' x y d e Q Φ j'.fh rx ry w' fun v z F2 H2 g2 r φ => k v z F2 H2 (g.trans g2) r φ
abbrev WO := GE → (Option Int → Prop) → Prop
structure DO (K : Fr) (X : Cx) (e : Option Expr) (t : TO) (f : WO) : Prop where
  k : X.K = K
  p : PO X e t
  s : ∀ (B HB F : Hp) (Γ : GE) (σ : L2.St) (H : Hp) (Q : Option Int → Hp → Prop) (Φ : Option Int → Prop), J K B HB F Γ σ H → f Γ Φ → (∀ o F' H', Grow F H F' H' → Φ o → Q o H') → t σ H Q
@[simp] def wNoPart : WO := fun _ Φ => Φ none
@[simp] def wPart (f : WE) : WO := fun Γ Φ => f Γ fun d => ∃ i, d = .int i ∧ Φ (some i)
theorem do_none (hk : X.K = K := by rfl) : DO K X none tNoPart wNoPart := ⟨hk, po_none, fun B HB F Γ σ H Q Φ j w k => k _ F H (.refl j.fh) w⟩
theorem do_some (he : DE K X e t f) : DO K X (some e) (tPart t) (wPart f) := by
  obtain ⟨rfl, p, q⟩ := he
  refine ⟨rfl, po_some p, fun B HB F Γ σ H Q Φ j w k => q B HB F Γ σ H _ _ j w fun v d F' H' g r φ => ?_⟩
  obtain ⟨i, rfl, φ⟩ := φ
  exact ⟨i, r.int_inv, k _ F' H' g φ⟩
def cutD (xs : List D) (lo hi : Option Int) : List D := (xs.drop (HT.sIx xs.length 0 lo)).take (HT.sIx xs.length xs.length hi - HT.sIx xs.length 0 lo)
theorem RepL.cut {K : Fr} {F : Hp} {vs : List V} {ds : List D} (r : RepL K F vs ds) (lo hi : Option Int) : RepL K F (cutV vs lo hi) (cutD ds lo hi) := by
  unfold cutV cutD
  rw [r.length]
  exact (r.drop _).take _
@[simp] def wSl (w : D → Option Int → Option Int → (D → Prop) → Prop) (fa : WE) (lo hi : WO) : WE := fun Γ Φ => fa Γ fun d => lo Γ fun l => hi Γ fun u => w d l u Φ
@[simp] def slL : D → Option Int → Option Int → (D → Prop) → Prop
  | .lst xs, l, u, Φ => Φ (.lst (cutD xs l u))
  | .scr ns, l, u, Φ => Φ (.lst (cutD (ns.map .int) l u))
  | _, _, _, _ => False
theorem df_slice {lo hi : Option Expr} {fl fh : WO} {tl tu : TO} {p2 : Pos} (ha : DB K X a ta fa) (hl : DO K X lo tl fl) (hh : DO K X hi tu fh) : DF K X (.Subscript a (.Slice lo hi none p2) pos) (tSl (rSlL K) ta tl tu) (wSl slL fa fl fh) := by
  obtain ⟨rfl, p, q⟩ := ha
  obtain ⟨_, pl, ql⟩ := hl
  obtain ⟨_, ph, qh⟩ := hh
  refine ⟨rfl, pe_slice sl_list p pl ph, fun B HB F Γ σ H Q Φ j w k => q B HB F Γ σ H _ _ j w fun v d F1 H1 g1 r φ => ?_⟩
  refine ql B HB F1 Γ σ H1 _ _ (j.grow g1) φ fun l F2 H2 g2 φ2 => ?_
  refine qh B HB F2 Γ σ H2 _ _ ((j.grow g1).grow g2) φ2 fun u F3 H3 g3 φ3 => ?_
  have g := (g1.trans g2).trans g3
  have j3 := j.grow g
  have r3 := (r.grow g2).grow g3
  cases d with
  | lst xs =>
    obtain ⟨a, vs, rfl, e, rl⟩ := r3.lst j3.fh
    exact ⟨a, vs, rfl, .of e, fun p n => k p _ _ F3 _ (g.trans (.newH j3.fh n)) (j3.fh.free n) (g.hh.free n) upd_same (.lst (rl.cut l u)) φ3⟩
  | scr ns =>
    obtain ⟨a, rfl, e⟩ := r3.scr j3.fh
    exact ⟨a, _, rfl, e, fun p n => k p _ _ F3 _ (g.trans (.newH j3.fh n)) (j3.fh.free n) (g.hh.free n) upd_same (.lst ((RepL.ofInts ns).cut l u)) φ3⟩
  | _ => exact φ3.elim
end
end DL

set_option Elab.async false
set_option linter.all false
set_option maxRecDepth 100000
set_option maxHeartbeats 4000000
namespace DL
open PySem PySem.Spec PyProof.Rows L2

/-! ### what is walked -/
structure Wk (K : Fr) (F : Hp) (Jt : It) (ds : List D) : Prop where
  stop : ∀ i H, Same F H → ds.length ≤ i → Jt.stop i H
  go : ∀ i H, Same F H → i < ds.length → Jt.go i H
  yld : ∀ i F1 H x H', Same F F1 → Same F1 H → i < ds.length → Jt.yld i H x H' → ∃ d F2, ds[i]? = some d ∧ Grow F1 H F2 H' ∧ Rep K F2 x d
theorem Wk.mono {K : Fr} {F F' : Hp} {Jt : It} {ds : List D} (h : Wk K F Jt ds) (s : Same F F') : Wk K F' Jt ds :=
  ⟨fun i H q => h.stop i H (s.trans q), fun i H q => h.go i H (s.trans q), fun i F1 H x H' q => h.yld i F1 H x H' (s.trans q)⟩
def SI (K : Fr) (t : TI) (f : WA) : Prop := ∀ (B HB F : Hp) (Γ : GE) (σ : L2.St) (H : Hp) (R : It → Hp → Prop) (Φ : List D → Prop), J K B HB F Γ σ H → f Γ Φ → (∀ Jt ds F' H', Grow F H F' H' → Wk K F' Jt ds → Φ ds → R Jt H') → t σ H R
structure DI (K : Fr) (X : Cx) (tg it : Expr) (t : TI) (f : WA) : Prop where
  k : X.K = K
  p : PI X tg it t
  s : SI K t f
theorem wk_list {K : Fr} {F : Hp} {a : Addr} {vs : List V} {ds : List D} (h : SqL K F a vs) (r : RepL K F vs ds) : Wk K F (Itl K a) ds := by
  refine ⟨fun i H s hi => ⟨vs, s.seq h, by rw [r.length]; exact hi⟩, fun i H s hi => ?_, fun i F1 H x H' s1 s2 hi y => ?_⟩
  · have hv : i < vs.length := by rw [r.length]; exact hi
    exact ⟨vs, vs[i], s.seq h, List.getElem?_eq_getElem hv⟩
  · obtain ⟨e, y⟩ := y
    subst e
    obtain ⟨d, e1, e2⟩ := r.getV (y vs ((s1.trans s2).seq h))
    exact ⟨d, F1, e1, .refl s2, e2.mono s1⟩
theorem same_sqT {K : Fr} {H H' : Hp} {a : Addr} {xs : List V} (e : Same H H') (h : SqT K H a xs) : SqT K H' a xs := by
  rcases h with (h | ⟨o, h⟩) | h
  · exact .inl (.inl (e _ _ h))
  · exact .inl (.inr ⟨o, e _ _ h⟩)
  · exact .inr h
theorem wk_tup {K : Fr} {F : Hp} {a : Addr} {vs : List V} {ds : List D} (h : SqT K F a vs) (r : RepL K F vs ds) : Wk K F (Itt K a) ds := by
  refine ⟨fun i H s hi => ⟨vs, same_sqT s h, by rw [r.length]; exact hi⟩, fun i H s hi => ?_, fun i F1 H x H' s1 s2 hi y => ?_⟩
  · have hv : i < vs.length := by rw [r.length]; exact hi
    exact ⟨vs, vs[i], same_sqT s h, List.getElem?_eq_getElem hv⟩
  · obtain ⟨e, y⟩ := y
    subst e
    obtain ⟨d, e1, e2⟩ := r.getV (y vs (same_sqT (s1.trans s2) h))
    exact ⟨d, F1, e1, .refl s2, e2.mono s1⟩
section
variable {K : Fr} {X : Cx} {tg e a b : Expr} {es : List Expr} {t ta tb : TE} {th : TA} {f fa fb : WE} {h : WA} {pos p : Pos}
@[simp] def iterL : D → (List D → Prop) → Prop
  | .lst ds, Φ => Φ ds
  | .scr ns, Φ => Φ (ns.map .int)
  | _, _ => False
@[simp] def iterT : D → (List D → Prop) → Prop
  | .tup ds, Φ => Φ ds
  | _, _ => False
@[simp] def wItL (f : WE) : WA := fun Γ Φ => f Γ fun d => iterL d Φ
@[simp] def wItT (f : WE) : WA := fun Γ Φ => f Γ fun d => iterT d Φ
theorem di_list (he : DE K X e t f) : DI K X tg e (iList K t) (wItL f) := by
  obtain ⟨rfl, p, q⟩ := he
  refine ⟨rfl, pi_list p, fun B HB F Γ σ H R Φ j w k => q B HB F Γ σ H _ _ j w fun v d F' H' g r φ => ?_⟩
  cases d with
  | lst ds =>
    obtain ⟨a, vs, rfl, e, rl⟩ := r.lst_inv
    exact ⟨a, rfl, ⟨vs, .of (g.fh _ _ e)⟩, k _ ds F' H' g (wk_list (.of e) rl) φ⟩
  | scr ns =>
    obtain ⟨a, rfl, e⟩ := r.scr_inv
    exact ⟨a, rfl, ⟨_, g.fh.seq e⟩, k _ _ F' H' g (wk_list e (RepL.ofInts ns)) φ⟩
  | _ => exact φ.elim
theorem di_tup (he : DE K X e t f) : DI K X tg e (iTup K t) (wItT f) := by
  obtain ⟨rfl, p, q⟩ := he
  refine ⟨rfl, pi_tup p, fun B HB F Γ σ H R Φ j w k => q B HB F Γ σ H _ _ j w fun v d F' H' g r φ => ?_⟩
  cases d with
  | tup ds =>
    obtain ⟨a, vs, rfl, e, rl⟩ := r.tup_inv
    exact ⟨a, rfl, ⟨vs, .of (g.fh _ _ e)⟩, k _ ds F' H' g (wk_tup (.of e) rl) φ⟩
  | _ => exact φ.elim
def rngD (lo : Int) (n : Nat) : List D := (List.range n).map fun (i : Nat) => D.int (lo + i)
theorem rngD_len (lo : Int) (n : Nat) : (rngD lo n).length = n := by simp [rngD]
theorem rngD_get {lo : Int} {n i : Nat} (h : i < n) : (rngD lo n)[i]? = some (.int (lo + i)) := by simp [rngD, h]
theorem wk_range {K : Fr} {F : Hp} (lo : Int) (n : Nat) : Wk K F (Itr lo n) (rngD lo n) := by
  refine ⟨fun i H s hi => ?_, fun i H s hi => ?_, fun i F1 H x H' s1 s2 hi y => ?_⟩
  · rw [rngD_len] at hi; exact hi
  · rw [rngD_len] at hi; exact hi
  · obtain ⟨rfl, rfl⟩ := y
    rw [rngD_len] at hi
    exact ⟨_, F1, rngD_get hi, .refl s2, .int _⟩
@[simp] def iterR1 : List D → (List D → Prop) → Prop
  | [.int j], Φ => -(2 ^ 62) ≤ j ∧ j < 2 ^ 62 ∧ Φ (rngD 0 j.toNat)
  | _, _ => False
@[simp] def iterR2 : List D → (List D → Prop) → Prop
  | [.int i, .int j], Φ => (-(2 ^ 62) ≤ i ∧ i < 2 ^ 62 ∧ -(2 ^ 62) ≤ j ∧ j < 2 ^ 62) ∧ Φ (rngD i (j - i).toNat)
  | _, _ => False
@[simp] def wItR1 (h : WA) : WA := fun Γ Φ => h Γ fun ds => iterR1 ds Φ
@[simp] def wItR2 (h : WA) : WA := fun Γ Φ => h Γ fun ds => iterR2 ds Φ
theorem di_range1 (hm : X.mg "range" = none) (ha : DA K X [a] th h) (hg : Gl X "range" := by rfl) (hs : starEach [a] X.env = [(false, eval a X.env)] := by rfl) : DI K X tg (.Call (.Name "range" p) [a] [] pos) (iRng1 th) (wItR1 h) := by
  obtain ⟨rfl, pt, q⟩ := ha
  refine ⟨rfl, pi_range1 hg hm pt hs, fun B HB F Γ σ H R Φ j w k => q B HB F Γ σ H _ _ j w fun vs ds F' H' g r φ => ?_⟩
  match ds, φ with
  | [.int i], φ =>
    cases r with
    | cons r1 r2 =>
      cases r2
      rw [r1.int_inv]
      exact ⟨i, rfl, φ.1, φ.2.1, k _ _ F' H' g (wk_range 0 _) φ.2.2⟩
theorem di_range2 (hm : X.mg "range" = none) (ha : DA K X [a, b] th h) (hg : Gl X "range" := by rfl) (hs : starEach [a, b] X.env = [(false, eval a X.env), (false, eval b X.env)] := by rfl) (hs2 : starEach [b] X.env = [(false, eval b X.env)] := by rfl) :
    DI K X tg (.Call (.Name "range" p) [a, b] [] pos) (iRng2 th) (wItR2 h) := by
  obtain ⟨rfl, pt, q⟩ := ha
  refine ⟨rfl, pi_range2 hg hm pt hs hs2, fun B HB F Γ σ H R Φ j w k => q B HB F Γ σ H _ _ j w fun vs ds F' H' g r φ => ?_⟩
  match ds, φ with
  | [.int i1, .int i2], φ =>
    cases r with
    | cons r1 r2 =>
      cases r2 with
      | cons r2 r3 =>
        cases r3
        rw [r1.int_inv, r2.int_inv]
        exact ⟨i1, i2, rfl, φ.1, k _ _ F' H' g (wk_range i1 _) φ.2⟩
/-- enumerate of a list -/
def enumD (ds : List D) : List D := ds.mapIdx fun (i : Nat) d => .tup [.int (i : Int), d]
theorem enumD_len (ds : List D) : (enumD ds).length = ds.length := by simp [enumD]
theorem enumD_get {ds : List D} {i : Nat} {d : D} (h : ds[i]? = some d) : (enumD ds)[i]? = some (.tup [.int (i : Int), d]) := by simp [enumD, h]
theorem wk_enum {K : Fr} {F : Hp} {a : Addr} {vs : List V} {ds : List D} (h : SqL K F a vs) (r : RepL K F vs ds) : Wk K F (Ite K a) (enumD ds) := by
  refine ⟨fun i H s hi => ⟨vs, s.seq h, by rw [r.length]; rw [enumD_len] at hi; exact hi⟩, fun i H s hi => ?_, fun i F1 H x H' s1 s2 hi y => ?_⟩
  · have hv : i < vs.length := by rw [r.length]; rw [enumD_len] at hi; exact hi
    exact ⟨vs, vs[i], s.seq h, List.getElem?_eq_getElem hv⟩
  · obtain ⟨T, x, rfl, nT, rfl, y⟩ := y
    obtain ⟨d, e1, e2⟩ := r.getV (y vs ((s1.trans s2).seq h))
    have g := Grow.new (p := T) (o := .tup [.int (i : Nat), x]) s2 nT
    exact ⟨_, _, enumD_get e1, g, .ob upd_same (.tup (.cons (.int _) (.cons ((e2.mono s1).mono g.ff) .nil)))⟩
@[simp] def iterE : List D → (List D → Prop) → Prop
  | [.lst ds], Φ => Φ (enumD ds)
  | [.scr ns], Φ => Φ (enumD (ns.map .int))
  | _, _ => False
@[simp] def wItE (h : WA) : WA := fun Γ Φ => h Γ fun ds => iterE ds Φ
theorem di_enum {elts : List Expr} {kk : Nat} {tpos : Pos} (hm : X.mg "enumerate" = none) (ha : DA K X [a] th h) (hg : Gl X "enumerate" := by rfl) (hs : starEach [a] X.env = [(false, eval a X.env)] := by rfl) :
    DI K X (.Tuple elts kk tpos) (.Call (.Name "enumerate" p) [a] [] pos) (iEnum K th) (wItE h) := by
  obtain ⟨rfl, pt, q⟩ := ha
  refine ⟨rfl, pi_enum hg hm pt hs, fun B HB F Γ σ H R Φ j w k => q B HB F Γ σ H _ _ j w fun vs ds F' H' g r φ => ?_⟩
  match ds, φ with
  | [.lst ds], φ =>
    cases r with
    | cons r1 r2 =>
      cases r2
      obtain ⟨a, vs, rfl, e, rl⟩ := r1.lst_inv
      exact ⟨a, vs, rfl, .of (g.fh _ _ e), k _ _ F' H' g (wk_enum (.of e) rl) φ⟩
  | [.scr ns], φ =>
    cases r with
    | cons r1 r2 =>
      cases r2
      obtain ⟨a, rfl, e⟩ := r1.scr_inv
      exact ⟨a, _, rfl, g.fh.seq e, k _ _ F' H' g (wk_enum e (RepL.ofInts ns)) φ⟩
/-- zip of two lists -/
def zipD (ds es : List D) : List D := List.zipWith (fun a b => D.tup [a, b]) ds es
theorem wk_zip {K : Fr} {F : Hp} {a b : Addr} {vs ws : List V} {ds es : List D} (h : SqL K F a vs) (r : RepL K F vs ds) (h' : SqL K F b ws) (r' : RepL K F ws es) : Wk K F (Itz K a b) (zipD ds es) := by
  have hl : (zipD ds es).length = min vs.length ws.length := by rw [r.length, r'.length]; simp [zipD]
  refine ⟨fun i H s hi => ⟨vs, ws, s.seq h, s.seq h', by omega⟩, fun i H s hi => ?_, fun i F1 H x H' s1 s2 hi y => ?_⟩
  · have hv : i < vs.length := by omega
    have hw : i < ws.length := by omega
    exact ⟨vs, ws, vs[i], ws[i], s.seq h, s.seq h', List.getElem?_eq_getElem hv, List.getElem?_eq_getElem hw⟩
  · obtain ⟨T, x, z, rfl, nT, rfl, y1, y2⟩ := y
    obtain ⟨d, e1, e2⟩ := r.getV (y1 vs ((s1.trans s2).seq h))
    obtain ⟨d', e1', e2'⟩ := r'.getV (y2 ws ((s1.trans s2).seq h'))
    have g := Grow.new (p := T) (o := .tup [x, z]) s2 nT
    exact ⟨.tup [d, d'], _, by simp [zipD, List.getElem?_zipWith, e1, e1'], g, .ob upd_same (.tup (.cons ((e2.mono s1).mono g.ff) (.cons ((e2'.mono s1).mono g.ff) .nil)))⟩
@[simp] def iterZ : List D → (List D → Prop) → Prop
  | [.lst ds, .lst es], Φ => Φ (zipD ds es)
  | _, _ => False
@[simp] def wItZ (h : WA) : WA := fun Γ Φ => h Γ fun ds => iterZ ds Φ
end

/-! ### targets -/
abbrev WG := D → GE → (GE → Prop) → Prop
abbrev WGs := List D → GE → (GE → Prop) → Prop
theorem wipe_get (σ : L2.St) : ∀ (vs : List Nat) (k : Nat), (wipe σ vs)[k]? = if k ∈ vs ∧ k < σ.length then some none else σ[k]?
  | [], k => by simp [wipe]
  | v :: vs, k => by
    unfold wipe
    rw [List.getElem?_set, wipe_length, wipe_get σ vs k]
    by_cases h : v = k
    · subst h
      by_cases hl : v < σ.length
      · simp [hl]
      · simp [hl]
    · have h' : k ≠ v := fun e => h e.symm
      simp [h, h']
theorem wipe_set {σ : L2.St} {i : Nat} {x : Option V} {vs : List Nat} (h : i ∈ vs) : wipe (σ.set i x) vs = wipe σ vs := by
  apply List.ext_getElem?
  intro k
  rw [wipe_get, wipe_get]
  by_cases hk : k = i
  · subst hk
    by_cases hl : k < σ.length
    · simp [h, hl]
    · simp [h, hl]
  · have : i ≠ k := fun e => hk e.symm
    simp [List.getElem?_set_ne this]
theorem wipe_wipe (σ : L2.St) (vs : List Nat) : wipe (wipe σ vs) vs = wipe σ vs := by
  apply List.ext_getElem?
  intro k
  rw [wipe_get, wipe_get, wipe_length]
  split <;> rfl
def SG (K : Fr) (S : List Nat) (t : TG) (g : WG) : Prop := ∀ (B HB F : Hp) (Γ : GE) (σ : L2.St) (H : Hp) (v : V) (d : D) (Q : L2.St → Hp → Prop) (Φ : GE → Prop), J K B HB F Γ σ H → Rep K F v d → g d Γ Φ →
    (∀ Γ' σ', J K B HB F Γ' σ' H → (∀ vs : List Nat, (∀ i ∈ S, i ∈ vs) → wipe σ' vs = wipe σ vs) → Φ Γ' → Q σ' H) → t v σ H Q
def SGs (K : Fr) (S : List Nat) (t : TGs) (g : WGs) : Prop := ∀ (B HB F : Hp) (Γ : GE) (σ : L2.St) (H : Hp) (vs : List V) (ds : List D) (Q : L2.St → Hp → Prop) (Φ : GE → Prop), J K B HB F Γ σ H → RepL K F vs ds → g ds Γ Φ →
    (∀ Γ' σ', J K B HB F Γ' σ' H → (∀ us : List Nat, (∀ i ∈ S, i ∈ us) → wipe σ' us = wipe σ us) → Φ Γ' → Q σ' H) → t vs σ H Q
structure DG (K : Fr) (X : Cx) (tg : Expr) (S : List Nat) (t : TG) (g : WG) : Prop where
  k : X.K = K
  p : PG X tg t
  s : SG K S t g
structure DGs (K : Fr) (X : Cx) (ts : List Expr) (S : List Nat) (t : TGs) (g : WGs) : Prop where
  k : X.K = K
  p : PGs X ts t
  s : SGs K S t g
section
variable {K : Fr} {X : Cx} {e : Expr} {es : List Expr} {pos : Pos}
@[simp] def gSet (i : Nat) : WG := fun d Γ Φ => Φ (Γ.set i (some (.val d)))
theorem dg_name (i : Nat) {x : Str} (hN : X.N.Nodup) (hk : X.K = K := by rfl) (hi : X.N[i]? = some x := by rfl) (hx : Loc X.env.scope x := by first | exact Or.inl rfl | exact Or.inr rfl) (hf : X.fn x = true ∨ X.env.scope.names.lookup x = some .local := by first | exact .inl rfl | exact .inr rfl) : DG K X (.Name x pos) [i] (gName i) (gSet i) := by
  refine ⟨hk, pg_name hN hi hx hf, fun B HB F Γ σ H v d Q Φ j r w k => ?_⟩
  exact k _ _ (j.set i r) (fun vs h => wipe_set (h i (by simp))) w
@[simp] def gsNil : WGs
  | [], Γ, Φ => Φ Γ
  | _ :: _, _, _ => False
@[simp] def gsCons (g : WG) (h : WGs) : WGs
  | d :: r, Γ, Φ => g d Γ fun Γ' => h r Γ' Φ
  | [], _, _ => False
theorem dgs_nil (hk : X.K = K := by rfl) : DGs K X [] [] gNil gsNil := by
  refine ⟨hk, pgs_nil, fun B HB F Γ σ H vs ds Q Φ j r w k => ?_⟩
  cases r with
  | nil => exact ⟨rfl, k _ _ j (fun _ _ => rfl) w⟩
  | cons _ _ => exact w.elim
theorem dgs_cons {S S' : List Nat} {t : TG} {u : TGs} {g : WG} {h : WGs} (h1 : DG K X e S t g) (h2 : DGs K X es S' u h)
    (hs : (assignEach (e :: es) X.env).map (·.2) = assign e X.env :: (assignEach es X.env).map (·.2) := by rfl) : DGs K X (e :: es) (S ++ S') (gCons t u) (gsCons g h) := by
  refine ⟨h1.k, pgs_cons h1.p h2.p hs, fun B HB F Γ σ H vs ds Q Φ j r w k => ?_⟩
  cases r with
  | nil => exact w.elim
  | cons r1 r2 =>
    refine ⟨_, _, rfl, h1.s B HB F Γ σ H _ _ _ _ j r1 w fun Γ1 σ1 j1 c1 φ1 => ?_⟩
    refine h2.s B HB F Γ1 σ1 H _ _ _ _ j1 r2 φ1 fun Γ2 σ2 j2 c2 φ2 => ?_
    exact k Γ2 σ2 j2 (fun us hu => (c2 us fun i hi => hu i (List.mem_append_right _ hi)).trans (c1 us fun i hi => hu i (List.mem_append_left _ hi))) φ2
@[simp] def gTupD (n : Nat) (h : WGs) : WG := fun d Γ Φ => match d with
  | .tup ds => ds.length = n ∧ h ds Γ Φ
  | _ => False
theorem dg_tup {k n : Nat} {S : List Nat} {t : TGs} {h : WGs} (hc : X.calm = true) (hh : DGs K X es S t h)
    (hn : (assignEach es X.env).length = n := by rfl) (hst : (assignEach es X.env).findIdx? (·.1) = none := by rfl) : DG K X (.Tuple es k pos) S (gTup K n t) (gTupD n h) := by
  obtain rfl := hh.k
  refine ⟨rfl, pg_tup hc hh.p hn hst, fun B HB F Γ σ H v d Q Φ j r w k => ?_⟩
  cases d with
  | tup ds =>
    obtain ⟨a, vs, rfl, e, rl⟩ := r.tup_inv
    exact ⟨a, vs, rfl, .of (j.fh _ _ e), by rw [rl.length]; exact w.1, hh.s B HB F Γ σ H vs ds Q Φ j rl w.2 k⟩
  | _ => exact w.elim
end

/-! ### comprehensions -/
structure DTs (K : Fr) (X : Cx) (ifs : List Expr) (t : TT) (f : WT) : Prop where
  k : X.K = K
  p : PTs X ifs t
  s : STt K t f
@[simp] def wYes : WT := fun _ Φ => Φ true
theorem dts_nil {K : Fr} {X : Cx} (hk : X.K = K := by rfl) : DTs K X [] tYes wYes := ⟨hk, pts_nil, fun B HB F Γ σ H Q Φ j w k => k true F H (.refl j.fh) w⟩
theorem dts_one {K : Fr} {X : Cx} {c : Expr} {t : TT} {f : WT} (h : DT K X c t f) : DTs K X [c] t f := ⟨h.k, pts_one h.p, h.s⟩
@[simp] def wipeG (Γ : GE) : List Nat → GE
  | [] => Γ
  | v :: vs => (wipeG Γ vs).set v none
def lcGo (g : WG) (tt : WT) (te : WE) (Γ : GE) : List D → List D → (List D → Prop) → Prop
  | [], acc, Φ => Φ acc
  | d :: ds, acc, Φ => g d Γ fun Γ1 => tt Γ1 fun b => if b = true then te Γ1 fun y => acc.length < sizeLine ∧ lcGo g tt te Γ ds (acc ++ [y]) Φ else lcGo g tt te Γ ds acc Φ
def wLc (wi : WA) (g : WG) (tt : WT) (te : WE) (vs : List Nat) : WE := fun Γ Φ => wi Γ fun ds => lcGo g tt te (wipeG Γ vs) ds [] fun ys => Φ (.lst ys)
theorem J.wipe {K : Fr} {B HB F H : Hp} {Γ : GE} {σ : L2.St} (j : J K B HB F Γ σ H) : ∀ vs : List Nat, J K B HB F (wipeG Γ vs) (L2.wipe σ vs) H
  | [] => j
  | v :: vs => by
    have j' := j.wipe vs
    unfold wipeG L2.wipe
    refine ⟨j'.gr, by simp [j'.len], fun k s h => ?_, fun k l d1 d2 b nkl e1 e2 e3 => ?_⟩
    · have f1 : v ≠ k := by
        rintro rfl
        rw [List.getElem?_set] at h
        split at h
        · split at h <;> cases h
        · exact absurd rfl (by assumption)
      rw [List.getElem?_set_ne f1] at h ⊢
      exact j'.sl k s h
    · have f1 : v ≠ k := by
        rintro rfl
        rw [List.getElem?_set] at e1
        split at e1
        · split at e1 <;> cases e1
        · exact absurd rfl (by assumption)
      have f2 : v ≠ l := by
        rintro rfl
        rw [List.getElem?_set] at e2
        split at e2
        · split at e2 <;> cases e2
        · exact absurd rfl (by assumption)
      rw [List.getElem?_set_ne f1] at e1 e3
      rw [List.getElem?_set_ne f2] at e2 ⊢
      exact j'.ow k l _ _ b nkl e1 e2 e3
theorem Grow.updNew {F H F' H' : Hp} {p : Addr} {o : HO} (g : Grow F H F' H') (n : H p = none) (nf : F' p = none) : Grow F H F' (upd H' p o) :=
  ⟨g.ff, fun b u e => by rw [upd_ne (ne_of_none e n)]; exact g.hh _ _ e, fun b u e => by rw [upd_ne (ne_of_none e nf)]; exact g.fh _ _ e, g.ow⟩
section
variable {K : Fr} {X : Cx} {elt tg iter : Expr} {ifs : List Expr} {scope : Scope} {own : List (Str × Nat)} {pos : Pos} {wi : TI} {g : TG} {tt : TT} {te : TE} {fi : WA} {fg : WG} {ft : WT} {fe : WE} {S : List Nat}
theorem lc_sound {K : Fr} {vs : List Nat} (hi : SI K wi fi) (hg : SG K S g fg) (ht : STt K tt ft) (he : SE K te fe) (hS : ∀ i ∈ S, i ∈ vs) : SF K (tLc wi g tt te vs) (wLc fi fg ft fe vs) := by
  intro B HB F Γ σ H Q Φ j w k
  refine hi B HB F Γ σ H _ _ j w fun Jt ds F1 H1 g1 wk φ => ?_
  intro D nD
  have j1 := j.grow g1
  have jw := j1.wipe vs
  refine ⟨fun i m H2 => ∃ F2 us acc, m = ds.length - i ∧ i ≤ ds.length ∧ Grow F1 H1 F2 H2 ∧ F2 D = none ∧ H2 D = some (.lst us) ∧ RepL K F2 us acc ∧ lcGo fg ft fe (wipeG Γ vs) (ds.drop i) acc fun ys => Φ (.lst ys),
    ⟨ds.length, F1, [], [], rfl, Nat.zero_le _, .newH j1.fh nD, j1.fh.free nD, upd_same, .nil, φ⟩, ?_⟩
  rintro i m H2 ⟨F2, us, acc, rfl, hi2, g2, nF, eD, ra, w2⟩
  by_cases hlt : i < ds.length
  · have s12 : Same F1 F2 := g2.ff
    refine .inr ⟨wk.go i H2 (s12.trans g2.fh) hlt, fun H' => ∃ F3 us' acc', Grow F1 H1 F3 H' ∧ F3 D = none ∧ H' D = some (.lst us') ∧ RepL K F3 us' acc' ∧ lcGo fg ft fe (wipeG Γ vs) (ds.drop (i + 1)) acc' fun ys => Φ (.lst ys),
      fun H' ⟨F3, us', acc', z⟩ => ⟨ds.length - (i + 1), by omega, F3, us', acc', rfl, hlt, z⟩, fun x H' y => ?_⟩
    obtain ⟨d, F3, ed, g3, r3⟩ := wk.yld i F2 H2 x H' s12 g2.fh hlt y
    have edrop : ds.drop i = d :: ds.drop (i + 1) := by
      have := List.getElem?_eq_some_iff.mp ed
      obtain ⟨h1, h2⟩ := this
      rw [← h2]; exact List.drop_eq_getElem_cons h1
    rw [edrop] at w2
    have g13 := g2.trans g3
    have nF3 : F3 D = none := g3.ow D (by rw [eD]; simp) nF
    have eD3 : H' D = some (.lst us) := g3.hh _ _ eD
    refine hg B HB F3 (wipeG Γ vs) (wipe σ vs) H' x d _ _ (jw.grow g13) r3 w2 fun Γ4 σ4 j4 c4 w4 => ?_
    refine ⟨(c4 vs hS).trans (wipe_wipe σ vs), ?_⟩
    refine ht B HB F3 Γ4 σ4 H' _ _ j4 w4 fun b F5 H5 g5 w5 => ?_
    have nF5 : F5 D = none := g5.ow D (by rw [eD3]; simp) nF3
    have eD5 : H5 D = some (.lst us) := g5.hh _ _ eD3
    cases b with
    | false => exact ⟨F5, us, acc, g13.trans g5, nF5, eD5, (ra.mono g3.ff).mono g5.ff, w5⟩
    | true =>
      refine he B HB F5 Γ4 σ4 H5 _ _ (j4.grow g5) w5 fun v y F6 H6 g6 r6 w6 => ?_
      have nF6 : F6 D = none := g6.ow D (by rw [eD5]; simp) nF5
      have eD6 : H6 D = some (.lst us) := g6.hh _ _ eD5
      have ra6 := ((ra.mono g3.ff).mono g5.ff).mono g6.ff
      refine ⟨us, eD6, by rw [ra6.length]; exact w6.1, F6, _, _, ((g13.trans g5).trans g6).updNew nD nF6, nF6, upd_same, ra6.append (.cons r6 .nil), w6.2⟩
  · have e : i = ds.length := by omega
    subst e
    rw [List.drop_length] at w2
    refine .inl ⟨wk.stop _ H2 (g2.ff.trans g2.fh) (Nat.le_refl _), ?_⟩
    exact k D _ _ F2 H2 (g1.trans g2) nF (g1.hh.free nD) eD (.lst ra) w2
theorem blk_ok (N : List Str) (sc : Scope) {scope : Scope} {own : List (Str × Nat)} (h : blkC N sc scope own = true) : BlkOk N sc scope own := blkOk_by h
theorem df_lc (hc : X.calm = true) (hN : X.N.Nodup) (hi : DI K X tg iter wi fi) (ok : BlkOk X.N X.env.scope scope own)
    (hg : ∀ (s : Shared) (H : Hp) (C : Addr) (cl : List (Str × Addr)) (fp : List Addr), DG K (X.blk s H scope (compEnvC scope cl C X.env) fp) tg S g fg)
    (ht : ∀ (s : Shared) (H : Hp) (C : Addr) (cl : List (Str × Addr)) (fp : List Addr), DTs K (X.blk s H scope (compEnvC scope cl C X.env) fp) ifs tt ft)
    (he : ∀ (s : Shared) (H : Hp) (C : Addr) (cl : List (Str × Addr)) (fp : List Addr), DE K (X.blk s H scope (compEnvC scope cl C X.env) fp) elt te fe)
    (hS : ∀ i ∈ S, i ∈ own.map (·.2) := by decide) (hs : ∀ x, foldedSetIterable iter X.env x = pure x := by intro _; rfl) : DF K X (.ListComp elt [⟨tg, iter, ifs, 0⟩] scope pos) (tLc wi g tt te (own.map (·.2))) (wLc fi fg ft fe (own.map (·.2))) := by
  refine ⟨hi.k, pe_lc hc hN hi.p ok (fun s H C cl fp => (hg s H C cl fp).p) (fun s H C cl fp => (ht s H C cl fp).p) (fun s H C cl fp => (he s H C cl fp).p) hs, ?_⟩
  exact lc_sound hi.s (hg ({} : Shared) (fun _ => none) 0 [] []).s (ht ({} : Shared) (fun _ => none) 0 [] []).s (he ({} : Shared) (fun _ => none) 0 [] []).s hS
end
end DL

set_option Elab.async false
set_option linter.all false
set_option maxRecDepth 100000
set_option maxHeartbeats 4000000
namespace DL
open PySem PySem.Spec PyProof.Rows L2

/-! ### statements -/
structure DK where
  nx : GE → Prop
  rt : D → Prop
  bk : GE → Prop := fun _ => False
  ct : GE → Prop := fun _ => False
abbrev WS := GE → DK → Prop
/-- a def's answer: a new object, or any value -/
def RepR (fr : Bool) (K : Fr) (F H HB : Hp) (v : V) (d : D) : Prop :=
  if fr = true then ∃ p o, v = .ref p ∧ HB p = none ∧ F p = none ∧ H p = some o ∧ RepW K F o d else Rep K F v d
structure KOk (fr : Bool) (K : Fr) (B HB : Hp) (κ : DK) (D : Ends) : Prop where
  nx : ∀ F Γ σ H, J K B HB F Γ σ H → κ.nx Γ → D.nx σ H
  rt : ∀ v d F H, Grow B HB F H → RepR fr K F H HB v d → κ.rt d → D.rt v H
  bk : ∀ F Γ σ H, J K B HB F Γ σ H → κ.bk Γ → D.bk σ H
  ct : ∀ F Γ σ H, J K B HB F Γ σ H → κ.ct Γ → D.ct σ H
def SS (fr : Bool) (K : Fr) (t : TS) (f : WS) : Prop := ∀ (B HB F : Hp) (Γ : GE) (σ : L2.St) (H : Hp) (D : Ends) (κ : DK), J K B HB F Γ σ H → f Γ κ → KOk fr K B HB κ D → t D σ H
structure DS (fr : Bool) (K : Fr) (X : Cx) (st : Stmt) (t : TS) (f : WS) : Prop where
  k : X.K = K
  p : PS X st t
  s : SS fr K t f
structure DSs (fr : Bool) (K : Fr) (X : Cx) (sts : List Stmt) (t : TS) (f : WS) : Prop where
  k : X.K = K
  p : PSs X sts t
  s : SS fr K t f
theorem Grow.base {B HB F H B' H1 : Hp} (g1 : Grow B HB B' H1) (g2 : Grow B' HB F H) : Grow B HB F H :=
  ⟨g1.ff.trans g2.ff, g2.hh, g2.fh, fun a h1 h2 => g2.ow a h1 (g1.ow a h1 h2)⟩
section
variable {fr : Bool} {K : Fr} {X : Cx} {st : Stmt} {rest a b : List Stmt} {e : Expr} {t u : TS} {te tb : TE} {tt : TT} {f g : WS} {fe fb : WE} {ft : WT} {pos : Pos}
@[simp] def sNext : WS := fun Γ κ => κ.nx Γ
@[simp] def sSeq (f g : WS) : WS := fun Γ κ => f Γ { κ with nx := fun Γ' => g Γ' κ }
theorem dss_nil (hk : X.K = K := by rfl) : DSs fr K X [] tNext sNext := ⟨hk, pss_nil, fun B HB F Γ σ H D κ j w k => k.nx F Γ σ H j w⟩
theorem dss_cons (h1 : DS fr K X st t f) (h2 : DSs fr K X rest u g) : DSs fr K X (st :: rest) (tSeq t u) (sSeq f g) :=
  ⟨h1.k, pss_cons h1.p h2.p, fun B HB F Γ σ H D κ j w k => h1.s B HB F Γ σ H _ _ j w ⟨fun F Γ σ H j w => h2.s B HB F Γ σ H D κ j w k, k.rt, k.bk, k.ct⟩⟩
theorem dss_one (h1 : DS fr K X st t f) : DSs fr K X [st] t f := ⟨h1.k, pss_one h1.p, h1.s⟩
@[simp] def sBreak : WS := fun Γ κ => κ.bk Γ
@[simp] def sCont : WS := fun Γ κ => κ.ct Γ
theorem ds_pass (hk : X.K = K := by rfl) : DS fr K X (.Pass pos) tNext sNext := ⟨hk, ps_pass, fun B HB F Γ σ H D κ j w k => k.nx F Γ σ H j w⟩
theorem ds_break (hk : X.K = K := by rfl) : DS fr K X (.Break pos) tBreak sBreak := ⟨hk, ps_break, fun B HB F Γ σ H D κ j w k => k.bk F Γ σ H j w⟩
theorem ds_cont (hk : X.K = K := by rfl) : DS fr K X (.Continue pos) tCont sCont := ⟨hk, ps_continue, fun B HB F Γ σ H D κ j w k => k.ct F Γ σ H j w⟩
/-- before a statement: a name's own object is frozen; a name is forgotten -/
@[simp] def sFrz (i : Nat) (f : WS) : WS := fun Γ κ => ∃ d, Γ[i]? = some (some (.own d)) ∧ f (Γ.set i (some (.val d))) κ
theorem ds_frz (i : Nat) (h : DSs fr K X rest t f) : DSs fr K X rest t (sFrz i f) := by
  refine ⟨h.k, h.p, fun B HB F Γ σ H D κ j w k => ?_⟩
  obtain ⟨d, e, w⟩ := w
  obtain ⟨F', j'⟩ := j.freeze e
  exact h.s B HB F' _ σ H D κ j' w k
@[simp] def sDrop (i : Nat) (f : WS) : WS := fun Γ κ => f (Γ.set i none) κ
theorem ds_drop (i : Nat) (h : DSs fr K X rest t f) : DSs fr K X rest t (sDrop i f) := by
  refine ⟨h.k, h.p, fun B HB F Γ σ H D κ j w k => ?_⟩
  exact h.s B HB F _ σ H D κ (j.drop (i := i)) w k
/-- x = e -/
@[simp] def sSet (i : Nat) (fe : WE) : WS := fun Γ κ => fe Γ fun d => κ.nx (Γ.set i (some (.val d)))
@[simp] def sOwn (i : Nat) (fe : WE) : WS := fun Γ κ => fe Γ fun d => κ.nx (Γ.set i (some (.own d)))
theorem set_sound {i : Nat} (he : SE K te fe) : SS fr K (tAsg te (gName i)) (sSet i fe) := fun B HB F Γ σ H D κ j w k =>
  he B HB F Γ σ H _ _ j w fun v d F' H' g r φ => k.nx F' _ _ H' ((j.grow g).set i r) φ
theorem own_sound {i : Nat} (he : SF K te fe) : SS fr K (tAsg te (gName i)) (sOwn i fe) := fun B HB F Γ σ H D κ j w k =>
  he B HB F Γ σ H _ _ j w fun p o d F' H' g n1 n2 eh r φ => k.nx F' _ _ H' ((j.grow g).setOwn i (j.gr.hh.free n2) n1 eh r fun kk d' e1 e2 => by
    obtain ⟨a, o', ea, _, _, q, _⟩ := j.sl kk _ e1
    rw [e2] at ea
    cases ea
    rw [n2] at q
    cases q) φ
theorem ds_set (i : Nat) {x : Str} {p' : Pos} (hN : X.N.Nodup) (he : DE K X e te fe) (hi : X.N[i]? = some x := by rfl) (hx : Loc X.env.scope x := by first | exact Or.inl rfl | exact Or.inr rfl) (hs : swapsWith e (some (.Name x p')) pos.line X.env = pure false := by rfl)
    (hf : X.fn x = true ∨ X.env.scope.names.lookup x = some .local := by first | exact .inl rfl | exact .inr rfl) : DS fr K X (.Assign [.Name x p'] e pos) (tAsg te (gName i)) (sSet i fe) := ⟨he.k, ps_set hN hi hx he.p hs hf, set_sound he.s⟩
theorem ds_own (i : Nat) {x : Str} {p' : Pos} (hN : X.N.Nodup) (he : DF K X e te fe) (hi : X.N[i]? = some x := by rfl) (hx : Loc X.env.scope x := by first | exact Or.inl rfl | exact Or.inr rfl) (hs : swapsWith e (some (.Name x p')) pos.line X.env = pure false := by rfl)
    (hf : X.fn x = true ∨ X.env.scope.names.lookup x = some .local := by first | exact .inl rfl | exact .inr rfl) : DS fr K X (.Assign [.Name x p'] e pos) (tAsg te (gName i)) (sOwn i fe) := ⟨he.k, ps_set hN hi hx he.p hs hf, own_sound he.s⟩
section
variable {elt tg iter : Expr} {ifs : List Expr} {scope : Scope} {own : List (Str × Nat)} {wi : TI} {gt : TG} {tel : TE} {fi : WA} {fg : WG} {fel : WE} {S : List Nat}
theorem lc_ps (i : Nat) {x : Str} {p' p2 : Pos} (hc : X.calm = true) (hN : X.N.Nodup) (hi : DI K X tg iter wi fi) (ok : BlkOk X.N X.env.scope scope own)
    (hg : ∀ (s : Shared) (H : Hp) (C : Addr) (cl : List (Str × Addr)) (fp : List Addr), DG K (X.blk s H scope (compEnvC scope cl C X.env) fp) tg S gt fg)
    (ht : ∀ (s : Shared) (H : Hp) (C : Addr) (cl : List (Str × Addr)) (fp : List Addr), DTs K (X.blk s H scope (compEnvC scope cl C X.env) fp) ifs tt ft)
    (he : ∀ (s : Shared) (H : Hp) (C : Addr) (cl : List (Str × Addr)) (fp : List Addr), DE K (X.blk s H scope (compEnvC scope cl C X.env) fp) elt tel fel)
    (hy : X.N[i]? = some x) (hyl : X.env.scope.names.lookup x = some .local) (hk : X.env.scope.kind = .function) (hl : (p'.line == p2.line) = true)
    (hn : (scope.names.any fun (n, k) => n == x && (k == .local || k == .cell)) = false) (hs : ∀ y, foldedSetIterable iter X.env y = pure y) :
    PS X (.Assign [.Name x p'] (.ListComp elt [⟨tg, iter, ifs, 0⟩] scope p2) pos) (tAsg (tLc wi gt tt tel (own.map (·.2))) (gName i)) :=
  ps_setLc hc hN hy hyl (sw_true hk hyl hl hn) hi.p ok (fun s H C cl fp => (hg s H C cl fp).p) (fun s H C cl fp => (ht s H C cl fp).p) (fun s H C cl fp => (he s H C cl fp).p) hs
theorem ds_setLc (i : Nat) {x : Str} {p' p2 : Pos} (hc : X.calm = true) (hN : X.N.Nodup) (hi : DI K X tg iter wi fi) (ok : BlkOk X.N X.env.scope scope own)
    (hg : ∀ (s : Shared) (H : Hp) (C : Addr) (cl : List (Str × Addr)) (fp : List Addr), DG K (X.blk s H scope (compEnvC scope cl C X.env) fp) tg S gt fg)
    (ht : ∀ (s : Shared) (H : Hp) (C : Addr) (cl : List (Str × Addr)) (fp : List Addr), DTs K (X.blk s H scope (compEnvC scope cl C X.env) fp) ifs tt ft)
    (he : ∀ (s : Shared) (H : Hp) (C : Addr) (cl : List (Str × Addr)) (fp : List Addr), DE K (X.blk s H scope (compEnvC scope cl C X.env) fp) elt tel fel)
    (hy : X.N[i]? = some x := by rfl) (hyl : X.env.scope.names.lookup x = some .local := by rfl) (hk : X.env.scope.kind = .function := by rfl) (hl : (p'.line == p2.line) = true := by rfl)
    (hn : (scope.names.any fun (n, k) => n == x && (k == .local || k == .cell)) = false := by decide +kernel) (hS : ∀ i ∈ S, i ∈ own.map (·.2) := by decide) (hs : ∀ y, foldedSetIterable iter X.env y = pure y := by intro _; rfl) :
    DS fr K X (.Assign [.Name x p'] (.ListComp elt [⟨tg, iter, ifs, 0⟩] scope p2) pos) (tAsg (tLc wi gt tt tel (own.map (·.2))) (gName i)) (sSet i (wLc fi fg ft fel (own.map (·.2)))) :=
  ⟨hi.k, lc_ps i hc hN hi ok hg ht he hy hyl hk hl hn hs, set_sound (DF.toE (X := X) ⟨hi.k, (df_lc (pos := p2) hc hN hi ok hg ht he hS hs).p, (df_lc (pos := p2) hc hN hi ok hg ht he hS hs).s⟩).s⟩
theorem ds_ownLc (i : Nat) {x : Str} {p' p2 : Pos} (hc : X.calm = true) (hN : X.N.Nodup) (hi : DI K X tg iter wi fi) (ok : BlkOk X.N X.env.scope scope own)
    (hg : ∀ (s : Shared) (H : Hp) (C : Addr) (cl : List (Str × Addr)) (fp : List Addr), DG K (X.blk s H scope (compEnvC scope cl C X.env) fp) tg S gt fg)
    (ht : ∀ (s : Shared) (H : Hp) (C : Addr) (cl : List (Str × Addr)) (fp : List Addr), DTs K (X.blk s H scope (compEnvC scope cl C X.env) fp) ifs tt ft)
    (he : ∀ (s : Shared) (H : Hp) (C : Addr) (cl : List (Str × Addr)) (fp : List Addr), DE K (X.blk s H scope (compEnvC scope cl C X.env) fp) elt tel fel)
    (hy : X.N[i]? = some x := by rfl) (hyl : X.env.scope.names.lookup x = some .local := by rfl) (hk : X.env.scope.kind = .function := by rfl) (hl : (p'.line == p2.line) = true := by rfl)
    (hn : (scope.names.any fun (n, k) => n == x && (k == .local || k == .cell)) = false := by decide +kernel) (hS : ∀ i ∈ S, i ∈ own.map (·.2) := by decide) (hs : ∀ y, foldedSetIterable iter X.env y = pure y := by intro _; rfl) :
    DS fr K X (.Assign [.Name x p'] (.ListComp elt [⟨tg, iter, ifs, 0⟩] scope p2) pos) (tAsg (tLc wi gt tt tel (own.map (·.2))) (gName i)) (sOwn i (wLc fi fg ft fel (own.map (·.2)))) :=
  ⟨hi.k, lc_ps i hc hN hi ok hg ht he hy hyl hk hl hn hs, own_sound (df_lc (pos := p2) hc hN hi ok hg ht he hS hs).s⟩
end
/-- targets = e -/
@[simp] def sAsg (fe : WE) (g : WG) : WS := fun Γ κ => fe Γ fun d => g d Γ κ.nx
theorem ds_asg {tg : Expr} {S : List Nat} {gt : TG} {fg : WG} (he : DE K X e te fe) (hg : DG K X tg S gt fg) (hs : swapsWithSole [tg] e pos.line X.env = pure false := by rfl) (hw : swappedStores [tg] e X.env = pure none := by rfl)
    (h1 : (assignEach [tg] X.env).map (·.2) = [assign tg X.env] := by rfl) : DS fr K X (.Assign [tg] e pos) (tAsg te gt) (sAsg fe fg) :=
  ⟨he.k, ps_asg he.p hg.p hs hw h1, fun B HB F Γ σ H D κ j w k => he.s B HB F Γ σ H _ _ j w fun v d F' H' g r φ => hg.s B HB F' Γ σ H' v d _ _ (j.grow g) r φ fun Γ' σ' j' _ φ' => k.nx F' Γ' σ' H' j' φ'⟩
/-- a, b = e1, e2 -/
@[simp] def sPar (i l : Nat) (h : WA) : WS := fun Γ κ => h Γ fun ds => match ds with
  | [d, e] => κ.nx ((Γ.set i (some (.val d))).set l (some (.val e)))
  | _ => False
theorem ds_par (i l : Nat) {x y : Str} {a b : Expr} {ta : TA} {h : WA} {px py pt : Pos} {kt k2 pt2} (hc : X.calm = true) (hN : X.N.Nodup) (ha : DA K X [a, b] ta h) (hi : X.N[i]? = some x := by rfl) (hl : X.N[l]? = some y := by rfl) (hil : i ≠ l := by decide)
    (hx : X.env.scope.names.lookup x = some .local := by rfl) (hy : X.env.scope.names.lookup y = some .local := by rfl)
    (hw : swappedStores [.Tuple [.Name x px, .Name y py] kt pt] (.Tuple [a, b] k2 pt2) X.env = pure (some [x, y]) := by rfl)
    (hs : swapsWithSole [.Tuple [.Name x px, .Name y py] kt pt] (.Tuple [a, b] k2 pt2) pos.line X.env = pure false := by rfl) :
    DS fr K X (.Assign [.Tuple [.Name x px, .Name y py] kt pt] (.Tuple [a, b] k2 pt2) pos) (tPar i l ta) (sPar i l h) := by
  refine ⟨ha.k, ps_par hc hN hi hl hil hx hy ha.p hw hs, fun B HB F Γ σ H D κ j w k => ha.s B HB F Γ σ H _ _ j w fun vs ds F' H' g r φ => ?_⟩
  match ds, φ with
  | [d, e], φ =>
    cases r with
    | cons r1 r2 =>
      cases r2 with
      | cons r2 r3 =>
        cases r3
        exact ⟨_, _, rfl, k.nx F' _ _ H' (((j.grow g).set i r1).set l r2) φ⟩
/-- x op= e -/
@[simp] def sAug (i : Nat) (w : W2) (fe : WE) : WS := fun Γ κ => ∃ d, Γ[i]? = some (some (.val d)) ∧ fe Γ fun e => w d e fun z => κ.nx (Γ.set i (some (.val z)))
theorem ds_aug (i : Nat) {x : Str} {op : Operator} {r : R2} {w : W2} {p' : Pos} (hN : X.N.Nodup) (ho : X.K = K → OpR X (inplaceOp op) r) (hd : DOp2 K r w) (he : DB K X e te fe) (hi : X.N[i]? = some x := by rfl) (hx : Loc X.env.scope x := by first | exact Or.inl rfl | exact Or.inr rfl)
    (hf : X.fn x = true ∨ X.env.scope.names.lookup x = some .local := by first | exact .inl rfl | exact .inr rfl) : DS fr K X (.AugAssign (.Name x p') op e pos) (tAug i te r) (sAug i w fe) := by
  refine ⟨he.k, ps_aug hN hi hx he.p (ho he.k) hf, fun B HB F Γ σ H D κ j w k => ?_⟩
  obtain ⟨d, e1, w⟩ := w
  obtain ⟨v, ev, rv⟩ := j.sl i _ e1
  refine ⟨v, ev, he.s B HB F Γ σ H _ _ j w fun y e F' H' g r φ => ?_⟩
  have j' := j.grow g
  exact hd F' H' v y d e _ _ j'.fh (.inl (rv.mono g.ff)) r φ fun u z F2 H2 g2 r2 φ2 => k.nx F2 _ _ H2 ((j'.grow g2).set i r2) φ2
/-- an expression whose value is dropped -/
@[simp] def sExpr (fe : WE) : WS := fun Γ κ => fe Γ fun _ => κ.nx Γ
theorem ds_expr (he : DE K X e te fe) (hs : swapsWith e none pos.line X.env = pure false := by rfl) : DS fr K X (.Expr e pos) (tDrop te) (sExpr fe) :=
  ⟨he.k, ps_expr he.p hs, fun B HB F Γ σ H D κ j w k => he.s B HB F Γ σ H _ _ j w fun v d F' H' g r φ => k.nx F' Γ σ H' (j.grow g) φ⟩
/-- return -/
@[simp] def sRet (fe : WE) : WS := fun Γ κ => fe Γ κ.rt
theorem ds_ret (he : DE K X e te fe) : DS false K X (.Return (some e) pos) (tRet te) (sRet fe) :=
  ⟨he.k, ps_ret he.p, fun B HB F Γ σ H D κ j w k => he.s B HB F Γ σ H _ _ j w fun v d F' H' g r φ => k.rt v d F' H' (j.grow g).gr r φ⟩
theorem ds_retN (hk : X.K = K := by rfl) : DS false K X (.Return none pos) tRetN (fun _ κ => κ.rt .non) :=
  ⟨hk, ps_retN, fun B HB F Γ σ H D κ j w k => k.rt .non .non F H j.gr .non w⟩
/-- return of a name -/
@[simp] def sRetV (i : Nat) : WS := fun Γ κ => (∃ d, Γ[i]? = some (some (.val d)) ∧ κ.rt d) ∨ ∃ d, Γ[i]? = some (some (.own d)) ∧ κ.rt d
theorem ds_retV (i : Nat) {x : Str} {p' : Pos} (hk : X.K = K := by rfl) (hN : X.N[i]? = some x := by rfl) (hv : Vis X.env.scope x := by first | exact Or.inl rfl | exact Or.inr (Or.inl rfl) | exact Or.inr (Or.inr rfl)) (hd : (x == ("__debug__" : Str)) = false := by decide)
    (hcd : (x == ("__classdict__" : Str)) = false := by decide) : DS false K X (.Return (some (.Name x p')) pos) (tRet (tVar i)) (sRetV i) := by
  refine ⟨hk, ps_ret (pe_var hN hv hd hcd), fun B HB F Γ σ H D κ j w k => ?_⟩
  rcases w with ⟨d, e, w⟩ | ⟨d, e, w⟩
  · obtain ⟨v, ev, r⟩ := j.sl i _ e
    exact ⟨v, ev, k.rt v d F H j.gr r w⟩
  · obtain ⟨F', j'⟩ := j.freeze e
    have hi : i < Γ.length := (List.getElem?_eq_some_iff.mp e).1
    obtain ⟨v, ev, r⟩ := j'.sl i (.val d) (by rw [List.getElem?_set_self hi])
    exact ⟨v, ev, k.rt v d F' H j'.gr r w⟩
@[simp] def sRetO (i : Nat) : WS := fun Γ κ => ∃ d, Γ[i]? = some (some (.own d)) ∧ κ.rt d
theorem ds_retO (i : Nat) {x : Str} {p' : Pos} (hk : X.K = K := by rfl) (hN : X.N[i]? = some x := by rfl) (hv : Vis X.env.scope x := by first | exact Or.inl rfl | exact Or.inr (Or.inl rfl) | exact Or.inr (Or.inr rfl)) (hd : (x == ("__debug__" : Str)) = false := by decide)
    (hcd : (x == ("__classdict__" : Str)) = false := by decide) : DS true K X (.Return (some (.Name x p')) pos) (tRet (tVar i)) (sRetO i) := by
  refine ⟨hk, ps_ret (pe_var hN hv hd hcd), fun B HB F Γ σ H D κ j w k => ?_⟩
  obtain ⟨d, e, w⟩ := w
  obtain ⟨a, o, ev, n1, n2, q, r⟩ := j.sl i _ e
  exact ⟨_, ev, k.rt _ d F H j.gr ⟨a, o, rfl, n1, n2, q, r⟩ w⟩
theorem ds_retF (he : DF K X e te fe) : DS true K X (.Return (some e) pos) (tRet te) (sRet fe) :=
  ⟨he.k, ps_ret he.p, fun B HB F Γ σ H D κ j w k => he.s B HB F Γ σ H _ _ j w fun p o d F' H' g n1 n2 eh r φ => k.rt _ d F' H' (j.grow g).gr (by show RepR true _ _ _ _ _ _; exact ⟨p, o, rfl, j.gr.hh.free n2, n1, eh, r⟩) φ⟩
/-- if -/
@[simp] def sIf (c : WT) (f g : WS) : WS := fun Γ κ => c Γ fun b => if b = true then f Γ κ else g Γ κ
theorem ds_if {c : Expr} (hc : DT K X c tt ft) (ha : DSs fr K X a t f) (hb : DSs fr K X b u g) : DS fr K X (.If c a b pos) (tIfS tt t u) (sIf ft f g) := by
  refine ⟨hc.k, ps_if hc.p ha.p hb.p, fun B HB F Γ σ H D κ j w k => hc.s B HB F Γ σ H _ _ j w fun c F' H' g φ => ?_⟩
  cases c with
  | true => exact ha.s B HB F' Γ σ H' D κ (j.grow g) φ k
  | false => exact hb.s B HB F' Γ σ H' D κ (j.grow g) φ k
/-- for -/
def forGo (g : WG) (f : WS) (κ : DK) : List D → GE → Prop
  | [], Γ => κ.nx Γ
  | d :: ds, Γ => g d Γ fun Γ1 => f Γ1 { κ with nx := forGo g f κ ds, ct := forGo g f κ ds, bk := κ.nx }
@[simp] def sFor (fi : WA) (g : WG) (f : WS) : WS := fun Γ κ => fi Γ fun ds => forGo g f κ ds Γ
theorem KOk.base {B HB B' H1 : Hp} {κ : DK} {D : Ends} (k : KOk fr K B HB κ D) (g : Grow B HB B' H1) : KOk fr K B' HB κ D :=
  ⟨fun F Γ σ H j => k.nx F Γ σ H (j.unbase g), fun v d F H gg => k.rt v d F H (g.base gg), fun F Γ σ H j => k.bk F Γ σ H (j.unbase g), fun F Γ σ H j => k.ct F Γ σ H (j.unbase g)⟩
theorem ds_for {tg iter : Expr} {S : List Nat} {wi : TI} {gt : TG} {fi : WA} {fg : WG} (hp : PassesOwn (model X.prog X.w) X.A X.env X.xe) (hc : X.calm = true) (hi : DI K X tg iter wi fi) (hg : DG K X tg S gt fg) (hb : DSs fr K X a t f)
    (hs : ∀ x, foldedSetIterable iter X.env x = pure x := by intro _; rfl) : DS fr K X (.For tg iter a [] pos) (tFor wi gt t) (sFor fi fg f) := by
  refine ⟨hi.k, ps_for hp hc hi.p hg.p hb.p hs, fun B HB F Γ σ H D κ j w k => hi.s B HB F Γ σ H _ _ j w fun Jt ds F1 H1 g1 wk φ => ?_⟩
  have j1 := j.grow g1
  have kb := k.base j1.gr
  refine ⟨fun i m σ H => ∃ F2 Γ2, m = ds.length - i ∧ i ≤ ds.length ∧ J K F1 HB F2 Γ2 σ H ∧ forGo fg f κ (ds.drop i) Γ2, ⟨ds.length, F1, Γ, rfl, Nat.zero_le _, j1.rebase, φ⟩, ?_⟩
  rintro i m σ2 H2 ⟨F2, Γ2, rfl, hi2, j2, w2⟩
  by_cases hlt : i < ds.length
  · refine .inr ⟨wk.go i H2 (j2.gr.ff.trans j2.fh) hlt, fun σ' H' => ∃ F3 Γ3, J K F1 HB F3 Γ3 σ' H' ∧ forGo fg f κ (ds.drop (i + 1)) Γ3, fun σ' H' ⟨F3, Γ3, z1, z2⟩ => ⟨ds.length - (i + 1), by omega, F3, Γ3, rfl, hlt, z1, z2⟩, fun x H' y => ?_⟩
    obtain ⟨d, F3, ed, g3, r3⟩ := wk.yld i F2 H2 x H' j2.gr.ff j2.fh hlt y
    have edrop : ds.drop i = d :: ds.drop (i + 1) := by
      obtain ⟨h1, h2⟩ := List.getElem?_eq_some_iff.mp ed
      rw [← h2]; exact List.drop_eq_getElem_cons h1
    rw [edrop] at w2
    refine hg.s F1 HB F3 Γ2 σ2 H' x d _ _ (j2.grow g3) r3 w2 fun Γ4 σ4 j4 _ w4 => ?_
    exact hb.s F1 HB F3 Γ4 σ4 H' _ _ j4 w4 ⟨fun F Γ σ H j w => ⟨F, Γ, j, w⟩, kb.rt, kb.nx, fun F Γ σ H j w => ⟨F, Γ, j, w⟩⟩
  · have e : i = ds.length := by omega
    subst e
    rw [List.drop_length] at w2
    exact .inl ⟨wk.stop _ H2 (j2.gr.ff.trans j2.fh) (Nat.le_refl _), kb.nx F2 Γ2 σ2 H2 j2 w2⟩
/-- while -/
def whGo (c : WT) (f : WS) (κ : DK) : Nat → GE → Prop
  | 0, _ => False
  | n + 1, Γ => c Γ fun b => if b = true then f Γ { κ with nx := whGo c f κ n, ct := whGo c f κ n, bk := κ.nx } else κ.nx Γ
def sWhile (c : WT) (f : WS) : WS := fun Γ κ => ∃ n, whGo c f κ n Γ
theorem ds_while {c : Expr} (hp : PassesOwn (model X.prog X.w) X.A X.env X.xe) (hc : DT K X c tt ft) (hb : DSs fr K X a t f) : DS fr K X (.While c a [] pos) (tWhile tt t) (sWhile ft f) := by
  refine ⟨hc.k, ps_while hp hc.p hb.p, fun B HB F Γ σ H D κ j w k => ?_⟩
  obtain ⟨n, w⟩ := w
  refine ⟨fun m σ H => ∃ F Γ, J K B HB F Γ σ H ∧ whGo ft f κ m Γ, ⟨n, F, Γ, j, w⟩, ?_⟩
  rintro m σ2 H2 ⟨F2, Γ2, j2, w2⟩
  cases m with
  | zero => exact w2.elim
  | succ m =>
    refine hc.s B HB F2 Γ2 σ2 H2 _ _ j2 w2 fun b F3 H3 g3 w3 => ?_
    cases b with
    | false => exact k.nx F3 Γ2 σ2 H3 (j2.grow g3) w3
    | true =>
      refine ⟨fun σ' H' => ∃ F Γ, J K B HB F Γ σ' H' ∧ whGo ft f κ m Γ, fun σ' H' z => ⟨m, Nat.lt_succ_self _, z⟩, ?_⟩
      exact hb.s B HB F3 Γ2 σ2 H3 _ _ (j2.grow g3) w3 ⟨fun F Γ σ H j w => ⟨F, Γ, j, w⟩, k.rt, k.nx, fun F Γ σ H j w => ⟨F, Γ, j, w⟩⟩
/-- xs[e] = v, xs a name's own list -/
@[simp] def sPut (i : Nat) (fb fe : WE) : WS := fun Γ κ => ∃ xs, Γ[i]? = some (some (.own (.lst xs))) ∧ fe Γ fun z => fb Γ fun kd => ∃ kk jj, kd = .int kk ∧ ixN xs.length kk = some jj ∧ κ.nx (Γ.set i (some (.own (.lst (xs.set jj z)))))
theorem ownL {B HB F H : Hp} {Γ : GE} {σ : L2.St} {i : Nat} {xs : List D} (j : J K B HB F Γ σ H) (e : Γ[i]? = some (some (.own (.lst xs)))) : ∃ a vs, σ[i]? = some (some (.ref a)) ∧ HB a = none ∧ F a = none ∧ H a = some (.lst vs) ∧ RepL K F vs xs := by
  obtain ⟨a, o, ea, n1, n2, q, r⟩ := j.sl i _ e
  cases r with
  | lst r => exact ⟨a, _, ea, n1, n2, q, r⟩
theorem ds_put (i : Nat) {x : Str} {p1 p2 : Pos} {ei : Expr} {ti : TE} (hv : DE K X e te fe) (hi : DE K X ei ti fb) (hN : X.N[i]? = some x := by rfl) (hvis : Vis X.env.scope x := by first | exact Or.inl rfl | exact Or.inr (Or.inl rfl) | exact Or.inr (Or.inr rfl)) (hd : (x == ("__debug__" : Str)) = false := by decide)
    (hcd : (x == ("__classdict__" : Str)) = false := by decide) (hs : swapsWithSole [.Subscript (.Name x p1) ei p2] e pos.line X.env = pure false := by rfl) (hw : swappedStores [.Subscript (.Name x p1) ei p2] e X.env = pure none := by rfl)
    (h1 : (assignEach [.Subscript (.Name x p1) ei p2] X.env).map (·.2) = [assign (.Subscript (.Name x p1) ei p2) X.env] := by rfl)
    (ha : ∀ v, assign (.Subscript (.Name x p1) ei p2) X.env v = (do
      let ov ← holding [v] (eval (.Name x p1) X.env)
      let iv ← holding [v, ov] (eval ei X.env)
      standAt p2
      holding [v, ov, iv] (setItem ov iv v)
      release [v, ov, iv] []) := by intro _; rfl) :
    DS fr K X (.Assign [.Subscript (.Name x p1) ei p2] e pos) (tAsg te (gSub (tVar i) ti rSetL)) (sPut i fb fe) := by
  refine ⟨hv.k, ps_asg hv.p (pg_sub (pe_var hN hvis hd hcd) hi.p set_list ha) hs hw h1, fun B HB F Γ σ H D κ j w k => ?_⟩
  obtain ⟨xs, e1, w⟩ := w
  obtain ⟨a, vs, ea, m1, m2, q, r⟩ := ownL j e1
  refine hv.s B HB F Γ σ H _ _ j w fun z zd F1 H1 g1 r1 w1 => ?_
  refine ⟨_, ea, hi.s B HB F1 Γ σ H1 _ _ (j.grow g1) w1 fun kv kd F2 H2 g2 r2 w2 => ?_⟩
  obtain ⟨kk, jj, rfl, hj, w2⟩ := w2
  rw [r2.int_inv]
  have j2 := (j.grow g1).grow g2
  obtain ⟨a', vs', ea', _, _, q2, rl⟩ := ownL j2 e1
  rw [ea] at ea'
  cases ea'
  refine ⟨a, vs', kk, jj, rfl, rfl, q2, by rw [rl.length]; exact hj, ?_⟩
  exact k.nx F2 _ σ _ (j2.write e1 ea (.lst (rl.set (r1.mono g2.ff) jj))) w2
/-- xs.append(v) -/
@[simp] def sApp (i : Nat) (fe : WE) : WS := fun Γ κ => ∃ xs, Γ[i]? = some (some (.own (.lst xs))) ∧ fe Γ fun z => xs.length < sizeLine ∧ κ.nx (Γ.set i (some (.own (.lst (xs ++ [z])))))
theorem app_sound {i : Nat} (he : SE K te fe) : SS fr K (tDrop (tBM K "list" rAppend (tVar i) (tCons te tNil))) (sApp i fe) := by
  intro B HB F Γ σ H D κ j w k
  obtain ⟨xs, e1, w⟩ := w
  obtain ⟨a, vs, ea, m1, m2, q, r⟩ := ownL j e1
  refine ⟨_, ea, .inl ⟨rfl, _, .of q⟩, he B HB F Γ σ H _ _ j w fun z zd F1 H1 g1 r1 w1 => ?_⟩
  have j1 := j.grow g1
  obtain ⟨a', vs', ea', _, _, q2, rl⟩ := ownL j1 e1
  rw [ea] at ea'
  cases ea'
  refine ⟨a, vs', z, rfl, rfl, q2, by rw [rl.length]; exact w1.1, ?_⟩
  exact k.nx F1 _ σ _ (j1.write e1 ea (.lst (rl.append (.cons r1 .nil)))) w1.2
/-! ### calls of defs -/
def spD (fr : Bool) (K : Fr) (S : List D → D → Prop) : Sp := fun vs H Q _ => ∃ F ds d, Same F H ∧ RepL K F vs ds ∧ S ds d ∧ ∀ v F' H', Grow F H F' H' → RepR fr K F' H' H v d → Q v H'
@[simp] def wFn (S : List D → D → Prop) (h : WA) : WE := fun Γ Φ => h Γ fun ds => ∃ d, S ds d ∧ Φ d
def scalD : D → Prop
  | .non => True | .bl _ => True | .int _ => True | .str _ => True
  | _ => False
@[simp] def wFnS (S : List D → D → Prop) (h : WA) : WE := fun Γ Φ => h Γ fun ds => ∃ d, S ds d ∧ scalD d ∧ Φ d
theorem Rep.scal {K : Fr} {F F' : Hp} {v : V} {d : D} (r : Rep K F v d) (h : scalD d) : Rep K F' v d := by
  cases d with
  | non => rw [r.non_inv]; exact .non
  | bl b => rw [r.bl_inv]; exact .bl b
  | int b => rw [r.int_inv]; exact .int b
  | str b => rw [r.str_inv]; exact .str b
  | _ => exact h.elim
section
variable {es : List Expr} {th : TA} {h : WA} {k : Nat} {fa : Addr} {fd : FuncData} {ps : List Str} {S : List D → D → Prop} {x : Str} {p : Pos}
theorem de_call (Fo : FnOk X.prog X.w K X.mg X.base CX0 k fa fd ps (spD false K S)) (hr : Room k X.A) (hm : X.mg x = some (.ref fa)) (hk : PySem.W.keepIn K (.ref fa) = true) (hb : Binds K fd ps [])
    (ha : DA K X (e :: es) th h) (hg : Gl X x := by rfl) (hdb : (x == ("__debug__" : Str)) = false := by decide) (he : starEach (e :: es) X.env = (false, eval e X.env) :: starEach es X.env := by rfl) (hpl : (backTo pos (starEach es X.env)).any (·.1) = false := by rfl) :
    DE K X (.Call (.Name x p) (e :: es) [] pos) (tCall (spD false K S) [] E0 th) (wFn S h) := by
  obtain rfl := ha.k
  refine ⟨rfl, pe_call Fo hr hg hm hk hb .nil pass0 ha.p hdb he hpl, fun B HB F Γ σ H Q Φ j w k => ha.s B HB F Γ σ H _ _ j w fun vs ds F' H' g r φ => ?_⟩
  obtain ⟨d, hS, φ⟩ := φ
  exact ⟨F', ds, d, g.fh, by simpa using r, hS, fun v F2 H2 g2 r2 => k v d F2 H2 (g.trans g2) r2 φ⟩
theorem de_callS (Fo : FnOk X.prog X.w K X.mg X.base CX0 k fa fd ps (spD false K S)) (hr : Room k X.A) (hm : X.mg x = some (.ref fa)) (hk : PySem.W.keepIn K (.ref fa) = true) (hb : Binds K fd ps [])
    (ha : DAB K X (e :: es) th h) (hg : Gl X x := by rfl) (hdb : (x == ("__debug__" : Str)) = false := by decide) (he : starEach (e :: es) X.env = (false, eval e X.env) :: starEach es X.env := by rfl) (hpl : (backTo pos (starEach es X.env)).any (·.1) = false := by rfl) :
    DE K X (.Call (.Name x p) (e :: es) [] pos) (tCall (spD false K S) [] E0 th) (wFnS S h) := by
  obtain rfl := ha.k
  refine ⟨rfl, pe_call Fo hr hg hm hk hb .nil pass0 ha.p hdb he hpl, fun B HB F Γ σ H Q Φ j w k => ha.s B HB F Γ σ H _ _ j w fun vs ds F' H' g r φ => ?_⟩
  obtain ⟨d, hS, hsc, φ⟩ := φ
  refine ⟨H', ds, d, Same.refl _, by simpa using r.repH g.fh, hS, fun v F2 H2 g2 r2 => ?_⟩
  exact k v d F' H2 ⟨g.ff, g.hh.trans g2.hh, g.fh.trans g2.hh, g.ow⟩ (Rep.scal r2 hsc) φ
theorem df_call (Fo : FnOk X.prog X.w K X.mg X.base CX0 k fa fd ps (spD true K S)) (hr : Room k X.A) (hm : X.mg x = some (.ref fa)) (hk : PySem.W.keepIn K (.ref fa) = true) (hb : Binds K fd ps [])
    (ha : DA K X (e :: es) th h) (hg : Gl X x := by rfl) (hdb : (x == ("__debug__" : Str)) = false := by decide) (he : starEach (e :: es) X.env = (false, eval e X.env) :: starEach es X.env := by rfl) (hpl : (backTo pos (starEach es X.env)).any (·.1) = false := by rfl) :
    DF K X (.Call (.Name x p) (e :: es) [] pos) (tCall (spD true K S) [] E0 th) (wFn S h) := by
  obtain rfl := ha.k
  refine ⟨rfl, pe_call Fo hr hg hm hk hb .nil pass0 ha.p hdb he hpl, fun B HB F Γ σ H Q Φ j w k => ha.s B HB F Γ σ H _ _ j w fun vs ds F' H' g r φ => ?_⟩
  obtain ⟨d, hS, φ⟩ := φ
  refine ⟨F', ds, d, g.fh, by simpa using r, hS, fun v F2 H2 g2 r2 => ?_⟩
  obtain ⟨p, o, rfl, n1, n2, eh, r2⟩ := r2
  exact k p o d F2 H2 (g.trans g2) n2 (g.hh.free n1) eh r2 φ
end
end

/-! ### a def by its body -/
def startG (n : Nat) (ds : List D) : GE := ds.map (fun d => some (.val d)) ++ List.replicate (n - ds.length) none
theorem startG_get {K : Fr} {F : Hp} : ∀ {vs : List V} {ds : List D} {n m : Nat} {i : Nat} {s : Sl}, RepL K F vs ds → (ds.map (fun d => some (Sl.val d)) ++ List.replicate n none)[i]? = some (some s) →
    ∃ v d, s = .val d ∧ (vs.map some ++ List.replicate m none)[i]? = some (some v) ∧ Rep K F v d
  | _, _, n, m, i, s, .nil, h => by
    simp only [List.map_nil, List.nil_append] at h
    rw [List.getElem?_replicate] at h
    split at h <;> cases h
  | _, _, n, m, 0, s, .cons a b, h => by
    simp at h
    exact ⟨_, _, h.symm, by simp, a⟩
  | _, _, n, m, i + 1, s, .cons a b, h => by
    obtain ⟨v, d, h1, h2, h3⟩ := startG_get (n := n) (m := m) (i := i) b (by simpa using h)
    exact ⟨v, d, h1, by simpa using h2, h3⟩
theorem J.start {K : Fr} {F H : Hp} {N : List Str} {vs : List V} {ds : List D} (s : Same F H) (r : RepL K F vs ds) : J K F H F (startG N.length ds) (L2.start N vs) H := by
  have hval : ∀ (i : Nat) (s : Sl), (startG N.length ds)[i]? = some (some s) → ∃ v d, s = .val d ∧ (L2.start N vs)[i]? = some (some v) ∧ Rep K F v d := fun i s e => startG_get r e
  refine ⟨.refl s, ?_, fun i s e => ?_, fun i j d d' a _ e1 => ?_⟩
  · unfold startG L2.start
    rw [List.length_append, List.length_append, List.length_map, List.length_map, List.length_replicate, List.length_replicate, r.length]
  · obtain ⟨v, d, rfl, h2, h3⟩ := hval i s e
    exact ⟨v, h2, h3⟩
  · obtain ⟨v, d, h, _⟩ := hval i _ e1
    cases h
section
variable {P : Program} {w : World} {K : Fr} {mg : Str → Option Value} {base : Heap}
theorem fnD {x qual : Str} {st : Stmt} {fa : Addr} {fd : FuncData} {N ps : List Str} {k : Nat} {fr : Bool} {S : List D → D → Prop} {f : WS} (Fn : Fun K x qual st fa fd) (sc : FnScope N ps (defScope st)) (hl : ∀ ds d, S ds d → ds.length = ps.length)
    (hf : ∀ ds d, S ds d → f (startG N.length ds) { nx := fun _ => fr = false ∧ d = .non, rt := fun z => z = d })
    (body : ∀ (cdv : Value) (A : Around) (outer : List PySem.Env) (s : Shared) (H : Hp) (E : XK), Room k (A.deeper (envOfC qual (defScope st) s.heap.objs.size fa cdv)) →
      ∃ t, DSs fr K (cxOf CX0 P w K mg base N qual (defScope st) fa cdv A outer s H E).nox (defBody st) t f) : FnOk P w K mg base CX0 (k + 1) fa fd ps (spD fr K S) := by
  refine Fn.ok sc (fun vs H Q E h => ?_) fun cdv A outer s H vs Q E hr h => ?_
  · obtain ⟨F, ds, d, _, r, hS, _⟩ := h
    rw [r.length]; exact hl ds d hS
  · obtain ⟨F, ds, d, sm, r, hS, q⟩ := h
    obtain ⟨t, b⟩ := body cdv A outer s H E hr
    refine ⟨t, b.p, b.s F H F _ _ H _ _ (J.start sm r) (hf ds d hS) ⟨fun F' Γ σ H' j z => ?_, fun v z F' H' g rr e => ?_, fun _ _ _ _ _ z => z.elim, fun _ _ _ _ _ z => z.elim⟩⟩
    · obtain ⟨e1, e2⟩ := z
      subst e1 e2
      exact q .non F' H' j.gr .non
    · subst e
      exact q v F' H' g rr
end
end DL

set_option Elab.async false
set_option linter.all false
set_option maxRecDepth 100000
set_option maxHeartbeats 4000000
namespace DL
open PySem PySem.Spec PyProof.Rows L2

section
variable {K : Fr} {F H : Hp}
/-- scalar answers -/
theorem k_same {Q : VK} {Φ : D → Prop} {v : V} {z : D} (s : Same F H) (k : ∀ v z F' H', Grow F H F' H' → Rep K F' v z → Φ z → Q v H') (r : Rep K F v z) (φ : Φ z) : Q v H := k v z F H (.refl s) r φ
theorem k_new {Q : VK} {Φ : D → Prop} {o : HO} {z : D} (s : Same F H) (k : ∀ v z F' H', Grow F H F' H' → Rep K F' v z → Φ z → Q v H') (r : RepO K F o z) (φ : Φ z) : ∀ p, H p = none → Q (.ref p) (upd H p o) := fun p n => by
  have g := Grow.new (p := p) (o := o) s n
  exact k _ z _ _ g (.ob upd_same (r.mono g.ff)) φ
theorem k_newF {Q : VK} {Φ : D → Prop} {o : HO} {z : D} (s : Same F H) (k : ∀ p o z F' H', Grow F H F' H' → F' p = none → H p = none → H' p = some o → RepW K F' o z → Φ z → Q (.ref p) H') (r : RepW K F o z) (φ : Φ z) : ∀ p, H p = none → Q (.ref p) (upd H p o) :=
  fun p n => k p o z F _ (.newH s n) (s.free n) n upd_same r φ
end

/-! ### + -/
@[simp] def wAdd : W2
  | .int i, .int j, Φ => Φ (.int (i + j))
  | .int i, .bl b, Φ => Φ (.int (i + b2i b))
  | .lst xs, .lst ys, Φ => xs.length + ys.length ≤ sizeLine ∧ Φ (.lst (xs ++ ys))
  | .tup xs, .tup ys, Φ => xs.length + ys.length ≤ sizeLine ∧ Φ (.tup (xs ++ ys))
  | .str x, .str y, Φ => x.length + y.length ≤ sizeLine ∧ Φ (.str (x ++ y))
  | _, _, _ => False
def rAddA (K : Fr) : R2 := fun x y H Q => rI0 (fun i j => .int (i + j)) x y H Q ∨ rCat x y H Q ∨ rCatA K x y H Q ∨ (∃ i j, x = .str i ∧ y = .str j ∧ i.length + j.length ≤ sizeLine ∧ Q (.str (i ++ j)) H) ∨ (∃ i k, x = .int i ∧ y = .bl k ∧ Q (.int (i + b2i k)) H)
theorem o_add {K : Fr} {X : Cx} (hk : X.K = K) : OpR X (binaryOp .Add) (rAddA K) := by
  cases hk
  exact op_add.or (op_cat.or (op_catA.or (op_add_str.or op_add_ib)))
theorem d_add {K : Fr} : DOp2 K (rAddA K) wAdd := by
  intro F H x y d e Q Φ s rx ry w k
  cases d with
  | int i =>
    cases e with
    | int j => rw [rx.int, ry.int]; exact .inl ⟨i, j, rfl, rfl, k_same s k (.int _) w⟩
    | bl b => rw [rx.int, ry.bl]; exact .inr (.inr (.inr (.inr ⟨i, b, rfl, rfl, k_same s k (.int _) w⟩)))
    | _ => exact w.elim
  | lst xs =>
    cases e with
    | lst ys =>
      obtain ⟨a, vs, rfl, ea, ra⟩ := rx.lst s
      obtain ⟨b, ws, rfl, eb, rb⟩ := ry.lst s
      exact .inr (.inl ⟨a, b, vs, ws, rfl, rfl, ea, eb, by rw [ra.length, rb.length]; exact w.1, k_new s k (.lst (ra.append rb)) w.2⟩)
    | _ => exact w.elim
  | tup xs =>
    cases e with
    | tup ys =>
      obtain ⟨a, vs, rfl, ea, ra⟩ := rx.tup s
      obtain ⟨b, ws, rfl, eb, rb⟩ := ry.tup s
      refine .inr (.inr (.inl ⟨a, b, vs, ws, rfl, rfl, .of ea, .of eb, by rw [ra.length, rb.length]; exact w.1, fun e => ?_, fun _ e => ?_, fun _ _ => k_new s k (.tup (ra.append rb)) w.2⟩))
      · subst e
        cases ra
        rcases ry with ry | ⟨_, _, _, _, _, ry⟩
        · exact k_same s k ry w.2
        · cases ry
      · subst e
        cases rb
        have w' : Φ (.tup xs) := by have := w.2; rwa [List.append_nil] at this
        rcases rx with rx | ⟨_, _, _, _, _, rx⟩
        · exact k_same s k rx w'
        · cases rx
    | _ => exact w.elim
  | str i =>
    cases e with
    | str j => rw [rx.str, ry.str]; exact .inr (.inr (.inr (.inl ⟨i, j, rfl, rfl, w.1, k_same s k (.str _) w.2⟩)))
    | _ => exact w.elim
  | _ => exact w.elim
@[simp] def wCat : W2
  | .lst xs, .lst ys, Φ => xs.length + ys.length ≤ sizeLine ∧ Φ (.lst (xs ++ ys))
  | _, _, _ => False
theorem f_cat {K : Fr} : DFp2 K rCat wCat := by
  intro F H x y d e Q Φ s rx ry w k
  cases d with
  | lst xs =>
    cases e with
    | lst ys =>
      obtain ⟨a, vs, rfl, ea, ra⟩ := rx.lst s
      obtain ⟨b, ws, rfl, eb, rb⟩ := ry.lst s
      exact ⟨a, b, vs, ws, rfl, rfl, ea, eb, by rw [ra.length, rb.length]; exact w.1, k_newF s k (.lst (ra.append rb)) w.2⟩
    | _ => exact w.elim
  | _ => exact w.elim
/-! ### ints -/
@[simp] def wII (C : Int → Int → Prop) (g : Int → Int → D) : W2
  | .int i, .int j, Φ => C i j ∧ Φ (g i j)
  | _, _, _ => False
theorem d_ii {K : Fr} {C C' : Int → Int → Prop} {g : Int → Int → V} {g' : Int → Int → D} (hc : ∀ i j, C' i j → C i j) (hg : ∀ F i j, Rep K F (g i j) (g' i j)) : DOp2 K (rI C g) (wII C' g') := by
  intro F H x y d e Q Φ s rx ry w k
  cases d with
  | int i =>
    cases e with
    | int j => rw [rx.int, ry.int]; exact ⟨i, j, rfl, rfl, hc _ _ w.1, k_same s k (hg F i j) w.2⟩
    | _ => exact w.elim
  | _ => exact w.elim
theorem d_ii0 {K : Fr} {g : Int → Int → V} {g' : Int → Int → D} (hg : ∀ F i j, Rep K F (g i j) (g' i j)) : DOp2 K (rI0 g) (wII (fun _ _ => True) g') := by
  intro F H x y d e Q Φ s rx ry w k
  cases d with
  | int i =>
    cases e with
    | int j => rw [rx.int, ry.int]; exact ⟨i, j, rfl, rfl, k_same s k (hg F i j) w.2⟩
    | _ => exact w.elim
  | _ => exact w.elim
@[simp] def wSub : W2 := wII (fun _ _ => True) fun i j => .int (i - j)
theorem d_sub {K : Fr} : DOp2 K (rI0 fun i j => .int (i - j)) wSub := d_ii0 fun _ _ _ => .int _
/-- products: one factor small, or both below 2 ^ 250 -/
def mulOk (i j : Int) : Prop := CMul i j ∨ (i.natAbs < 2 ^ 250 ∧ j.natAbs < 2 ^ 250)
@[simp] def wMul : W2
  | .int i, .int j, Φ => mulOk i j ∧ Φ (.int (i * j))
  | .lst xs, .int k, Φ => (-(2 ^ 63) ≤ k ∧ k < 2 ^ 63 ∧ xs.length * k.toNat ≤ sizeLine) ∧ Φ (.lst (List.replicate k.toNat xs).flatten)
  | _, _, _ => False
def rMulA : R2 := fun x y H Q => rI CMul (fun i j => .int (i * j)) x y H Q ∨ rI CMulW (fun i j => .int (i * j)) x y H Q ∨ rRep x y H Q
theorem o_mul {K : Fr} {X : Cx} (hk : X.K = K) : OpR X (binaryOp .Mult) rMulA := op_mul.or (op_mulW.or op_rep)
theorem RepL.rep {K : Fr} {F : Hp} {vs : List V} {ds : List D} (r : RepL K F vs ds) : ∀ k : Nat, RepL K F (List.replicate k vs).flatten (List.replicate k ds).flatten
  | 0 => .nil
  | k + 1 => by rw [List.replicate_succ, List.replicate_succ, List.flatten_cons, List.flatten_cons]; exact r.append (r.rep k)
theorem d_mul {K : Fr} : DOp2 K rMulA wMul := by
  intro F H x y d e Q Φ s rx ry w k
  cases d with
  | int i =>
    cases e with
    | int j =>
      rw [rx.int, ry.int]
      rcases w with ⟨w1 | w1, w2⟩
      · exact .inl ⟨i, j, rfl, rfl, w1, k_same s k (.int _) w2⟩
      · exact .inr (.inl ⟨i, j, rfl, rfl, wide_mul w1.1 w1.2 (by decide) (by decide) (by decide), k_same s k (.int _) w2⟩)
    | _ => exact w.elim
  | lst xs =>
    cases e with
    | int j =>
      obtain ⟨a, vs, rfl, ea, ra⟩ := rx.lst s
      rw [ry.int]
      exact .inr (.inr ⟨a, j, vs, rfl, rfl, ea, w.1.1, w.1.2.1, by rw [ra.length]; exact w.1.2.2, k_new s k (.lst (ra.rep _)) w.2⟩)
    | _ => exact w.elim
  | _ => exact w.elim
@[simp] def wRep : W2
  | .lst xs, .int k, Φ => (-(2 ^ 63) ≤ k ∧ k < 2 ^ 63 ∧ xs.length * k.toNat ≤ sizeLine) ∧ Φ (.lst (List.replicate k.toNat xs).flatten)
  | _, _, _ => False
theorem f_rep {K : Fr} : DFp2 K rRep wRep := by
  intro F H x y d e Q Φ s rx ry w k
  cases d with
  | lst xs =>
    cases e with
    | int j =>
      obtain ⟨a, vs, rfl, ea, ra⟩ := rx.lst s
      rw [ry.int]
      exact ⟨a, j, vs, rfl, rfl, ea, w.1.1, w.1.2.1, by rw [ra.length]; exact w.1.2.2, k_newF s k (.lst (ra.rep _)) w.2⟩
    | _ => exact w.elim
  | _ => exact w.elim
def divOk (_ j : Int) : Prop := 0 < j ∧ j < 2 ^ 250
@[simp] def wDiv : W2 := wII divOk fun i j => .int (i / j)
theorem divOk_w {i j : Int} (h : divOk i j) : CDivW i j := by
  refine wide_div (b := 250) h.1 ?_ (by decide) (by decide)
  have h1 : (0 : Int) < j := h.1
  have h2 : j < 2 ^ 250 := h.2
  omega
theorem d_div {K : Fr} : DOp2 K (rI CDivW fun i j => .int (i / j)) wDiv := d_ii (fun _ _ => divOk_w) fun _ _ _ => .int _
@[simp] def wMod : W2 := wII (fun _ j => 0 < j) fun i j => .int (i % j)
theorem d_mod {K : Fr} : DOp2 K (rI (fun _ j => 0 < j) fun i j => .int (i % j)) wMod := d_ii (fun _ _ h => h) fun _ _ _ => .int _
@[simp] def wPow : W2 := wII CPow fun i j => .int (i ^ j.toNat)
theorem d_pow {K : Fr} : DOp2 K (rI CPow fun i j => .int (i ^ j.toNat)) wPow := d_ii (fun _ _ h => h) fun _ _ _ => .int _
@[simp] def wLt : W2 := wII (fun _ _ => True) fun i j => .bl (decide (i < j))
@[simp] def wLe : W2 := wII (fun _ _ => True) fun i j => .bl (decide (i ≤ j))
@[simp] def wGt : W2 := wII (fun _ _ => True) fun i j => .bl (decide (j < i))
@[simp] def wGe : W2 := wII (fun _ _ => True) fun i j => .bl (decide (j ≤ i))
theorem d_lt {K : Fr} : DOp2 K (rI0 fun i j => .bl (decide (i < j))) wLt := d_ii0 fun _ _ _ => .bl _
theorem d_le {K : Fr} : DOp2 K (rI0 fun i j => .bl (decide (i ≤ j))) wLe := d_ii0 fun _ _ _ => .bl _
theorem d_gt {K : Fr} : DOp2 K (rI0 fun i j => .bl (decide (j < i))) wGt := d_ii0 fun _ _ _ => .bl _
theorem d_ge {K : Fr} : DOp2 K (rI0 fun i j => .bl (decide (j ≤ i))) wGe := d_ii0 fun _ _ _ => .bl _

/-! ### equality of data -/
mutual
def py : D → PyData
  | .non => .none | .bl b => .bool b | .int i => .int i | .str x => .str x
  | .lst xs => .list (pys xs) | .tup xs => .tuple (pys xs) | .scr ns => .list (ns.map .int) | .dK _ => .none | .dT _ => .none
def pys : List D → List PyData
  | [] => []
  | x :: xs => py x :: pys xs
end
theorem pys_map : ∀ xs : List D, pys xs = xs.map py
  | [] => rfl
  | x :: xs => by rw [pys, pys_map xs]; rfl
/-- data without dicts, at most n deep -/
def shp : Nat → D → Bool
  | _, .non => true | _, .bl _ => true | _, .int _ => true | _, .str x => PyData.strOk x
  | 0, .lst _ => false | 0, .tup _ => false | 0, .scr _ => false
  | n + 1, .lst xs => xs.all (shp n) | n + 1, .tup xs => xs.all (shp n) | _ + 1, .scr _ => true
  | _, .dK _ => false | _, .dT _ => false
mutual
theorem shp_lay : ∀ (n : Nat) (d : D), shp n d = true → (py d).canLay0 = true ∧ (py d).depth ≤ n
  | n, .non, _ => by simp [py, PyData.canLay0, PyData.depth]
  | n, .bl _, _ => by simp [py, PyData.canLay0, PyData.depth]
  | n, .int _, _ => by simp [py, PyData.canLay0, PyData.depth]
  | n, .str x, h => by
    have h' : PyData.strOk x = true := by cases n <;> exact h
    simp [py, PyData.canLay0, PyData.depth, h']
  | 0, .lst xs, h => by simp [shp] at h
  | 0, .tup xs, h => by simp [shp] at h
  | 0, .scr xs, h => by simp [shp] at h
  | n + 1, .lst xs, h => by
    obtain ⟨h1, h2⟩ := shps_lay n xs (by simpa [shp] using h)
    simp only [py, PyData.canLay0, PyData.depth]
    exact ⟨h1, by omega⟩
  | n + 1, .tup xs, h => by
    obtain ⟨h1, h2⟩ := shps_lay n xs (by simpa [shp] using h)
    simp only [py, PyData.canLay0, PyData.depth]
    exact ⟨h1, by omega⟩
  | n + 1, .scr ns, h => by
    have h1 : PyData.canLayAll0 (ns.map .int) = true := by
      induction ns with
      | nil => rfl
      | cons a r ih => simp only [List.map_cons, PyData.canLayAll0, PyData.canLay0, Bool.true_and]; exact ih (by simp [shp])
    have h2 : PyData.depthAll (ns.map .int) = 0 := by
      clear h1 h
      induction ns with
      | nil => rfl
      | cons a r ih => simp only [List.map_cons, PyData.depthAll, PyData.depth, ih]; rfl
    simp only [py, PyData.canLay0, PyData.depth]
    exact ⟨h1, by omega⟩
  | 0, .dK _, h => by simp [shp] at h
  | 0, .dT _, h => by simp [shp] at h
  | _ + 1, .dK _, h => by simp [shp] at h
  | _ + 1, .dT _, h => by simp [shp] at h
theorem shps_lay : ∀ (n : Nat) (xs : List D), (∀ x ∈ xs, shp n x = true) → PyData.canLayAll0 (pys xs) = true ∧ PyData.depthAll (pys xs) ≤ n
  | n, [], _ => by simp [pys, PyData.canLayAll0, PyData.depthAll]
  | n, x :: xs, h => by
    obtain ⟨h1, h2⟩ := shp_lay n x (h x (by simp))
    obtain ⟨h3, h4⟩ := shps_lay n xs fun y hy => h y (by simp [hy])
    simp only [pys, PyData.canLayAll0, PyData.depthAll, h1, h3, Bool.true_and, true_and]
    omega
end
theorem shp_shaped {d : D} (h : shp 9 d = true) : SeqAt.shaped (py d) = true := by
  obtain ⟨h1, h2⟩ := shp_lay 9 d h
  simp only [SeqAt.shaped, h1, Bool.true_and, decide_eq_true_eq]
  omega
theorem dpAll_ints {K : Fr} {H : Hp} : ∀ ns : List Int, DpAll K H (ns.map V.int) (ns.map PyData.int)
  | [] => .nil
  | n :: ns => .cons (.int n) (dpAll_ints ns)
mutual
theorem dp_of {K : Fr} {H : Hp} : ∀ {n : Nat} {v : V} {d : D}, Rep K H v d → shp n d = true → Dp K H v (py d)
  | _, _, _, .non, _ => by simp only [py]; exact .non
  | _, _, _, .bl b, _ => by simp only [py]; exact .bl b
  | _, _, _, .int i, _ => by simp only [py]; exact .int i
  | _, _, _, .str x, _ => by simp only [py]; exact .str x
  | n, _, _, .ob e r, h => dpO_of r e h
  | _, _, _, .scr e, _ => by simp only [py]; exact .lst e (dpAll_ints _)
theorem dpO_of {K : Fr} {H : Hp} : ∀ {n : Nat} {o : HO} {d : D} {a : Addr}, RepO K H o d → H a = some o → shp n d = true → Dp K H (.ref a) (py d)
  | 0, _, _, _, .lst r, e, h => by simp [shp] at h
  | n + 1, _, _, _, .lst r, e, h => by simp only [py]; exact .lst (.of e) (dpL_of r (by simpa [shp] using h))
  | 0, _, _, _, .tup r, e, h => by simp [shp] at h
  | n + 1, _, _, _, .tup r, e, h => by simp only [py]; exact .tup (.of e) (dpL_of r (by simpa [shp] using h))
  | 0, _, _, _, .dK r, e, h => by simp [shp] at h
  | n + 1, _, _, _, .dK r, e, h => by simp [shp] at h
  | 0, _, _, _, .dT r, e, h => by simp [shp] at h
  | n + 1, _, _, _, .dT r, e, h => by simp [shp] at h
theorem dpL_of {K : Fr} {H : Hp} : ∀ {n : Nat} {vs : List V} {ds : List D}, RepL K H vs ds → (∀ d ∈ ds, shp n d = true) → DpAll K H vs (pys ds)
  | _, _, _, .nil, _ => by simp only [pys]; exact .nil
  | _, _, _, .cons a b, h => by
    simp only [pys]
    exact .cons (dp_of a (h _ (by simp))) (dpL_of b fun d hd => h d (by simp [hd]))
end
/-- Python's == of data -/
def deq (d e : D) : Bool := PyData.eqv (py d) (py e)
@[simp] def wEq : W2 := fun d e Φ => (shp 9 d = true ∧ shp 9 e = true) ∧ Φ (.bl (deq d e))
@[simp] def wNe : W2 := fun d e Φ => (shp 9 d = true ∧ shp 9 e = true) ∧ Φ (.bl (!deq d e))
theorem d_eq {K : Fr} : DOp2 K (rEqD K) wEq := fun F H x y d e Q Φ s rx ry w k =>
  ⟨py d, py e, dp_of (rx.rep s) w.1.1, dp_of (ry.rep s) w.1.2, shp_shaped w.1.1, shp_shaped w.1.2, k_same s k (.bl _) w.2⟩
theorem d_ne {K : Fr} : DOp2 K (rNeD K) wNe := fun F H x y d e Q Φ s rx ry w k =>
  ⟨py d, py e, dp_of (rx.rep s) w.1.1, dp_of (ry.rep s) w.1.2, shp_shaped w.1.1, shp_shaped w.1.2, k_same s k (.bl _) w.2⟩
theorem o_eq {K : Fr} {X : Cx} {k : Nat} (hr : Room k X.A) (hk : X.K = K) : OpR X (compareOp .Eq) (rEqD K) := by
  cases hk
  exact op_eqD hr.units
theorem o_ne {K : Fr} {X : Cx} {k : Nat} (hr : Room k X.A) (hk : X.K = K) : OpR X (compareOp .NotEq) (rNeD K) := by
  cases hk
  exact op_neD hr.units
/-! ### items -/
@[simp] def wIx : W2
  | .lst xs, .int i, Φ => ∃ z, atI xs i = some z ∧ Φ z
  | .tup xs, .int i, Φ => ∃ z, atI xs i = some z ∧ Φ z
  | .scr ns, .int i, Φ => ∃ z, atI ns i = some z ∧ Φ (.int z)
  | .str x, .int i, Φ => x.length ≤ sizeLine ∧ ∃ c, atI x.cps.toList i = some c ∧ Φ (.str ⟨#[c]⟩)
  | _, _, _ => False
theorem RepL.atI {K : Fr} {F : Hp} {vs : List V} {ds : List D} {i : Int} {z : D} (r : RepL K F vs ds) (h : L2.atI ds i = some z) : ∃ v, L2.atI vs i = some v ∧ Rep K F v z := by
  unfold L2.atI at h ⊢
  rw [r.length]
  cases q : ixN ds.length i with
  | none => rw [q] at h; cases h
  | some j => rw [q] at h; exact r.get h
theorem d_ix {K : Fr} : DOp2 K (rIx K) wIx := by
  intro F H x y d e Q Φ s rx ry w k
  cases e with
  | int i =>
    rw [ry.int]
    cases d with
    | lst xs =>
      obtain ⟨a, vs, rfl, ea, ra⟩ := rx.lst s
      obtain ⟨z, hz, φ⟩ := w
      obtain ⟨v, hv, rv⟩ := ra.atI hz
      exact .inl ⟨a, vs, i, v, rfl, rfl, .of ea, hv, k_same s k rv φ⟩
    | tup xs =>
      obtain ⟨a, vs, rfl, ea, ra⟩ := rx.tup s
      obtain ⟨z, hz, φ⟩ := w
      obtain ⟨v, hv, rv⟩ := ra.atI hz
      exact .inr (.inl ⟨a, vs, i, v, rfl, rfl, .of ea, hv, k_same s k rv φ⟩)
    | scr ns =>
      obtain ⟨a, rfl, ea⟩ := rx.scr s
      obtain ⟨z, hz, φ⟩ := w
      refine .inl ⟨a, _, i, .int z, rfl, rfl, ea, ?_, k_same s k (.int z) φ⟩
      unfold L2.atI at hz ⊢
      rw [List.length_map]
      cases q : ixN ns.length i with
      | none => rw [q] at hz; cases hz
      | some j =>
        rw [q] at hz
        have hz' : ns[j]? = some z := hz
        show (ns.map V.int)[j]? = some (.int z)
        rw [List.getElem?_map, hz']; rfl
    | str x =>
      rw [rx.str]
      obtain ⟨h1, c, h2, φ⟩ := w
      exact .inr (.inr ⟨x, i, c, rfl, rfl, h1, h2, k_same s k (.str _) φ⟩)
    | _ => exact w.elim
  | _ => cases d <;> exact w.elim
/-! ### built-ins -/
@[simp] def wLen : WC
  | [.lst xs], Φ => Φ (.int xs.length)
  | [.tup xs], Φ => Φ (.int xs.length)
  | [.scr ns], Φ => Φ (.int ns.length)
  | [.str x], Φ => x.length ≤ sizeLine ∧ Φ (.int x.length)
  | _, _ => False
theorem d_len {K : Fr} : DCall K (fun xs H Q => ∃ x n, xs = [x] ∧ LenV K x H n ∧ Q (.int n) H) wLen := by
  intro F H vs ds Q Φ s r w k
  match ds, w with
  | [.lst xs], w =>
    cases r with
    | cons r1 r2 =>
      cases r2
      obtain ⟨a, us, rfl, ea, ra⟩ := r1.lst s
      exact ⟨_, _, rfl, .inl ⟨us, .of ea, rfl⟩, by rw [ra.length]; exact k_same s k (.int _) w⟩
  | [.tup xs], w =>
    cases r with
    | cons r1 r2 =>
      cases r2
      obtain ⟨a, us, rfl, ea, ra⟩ := r1.tup s
      exact ⟨_, _, rfl, .inr ⟨us, .of ea, rfl⟩, by rw [ra.length]; exact k_same s k (.int _) w⟩
  | [.scr ns], w =>
    cases r with
    | cons r1 r2 =>
      cases r2
      obtain ⟨a, rfl, ea⟩ := r1.scr s
      exact ⟨_, _, rfl, .inl ⟨_, ea, rfl⟩, by rw [List.length_map]; exact k_same s k (.int _) w⟩
  | [.str x], w =>
    cases r with
    | cons r1 r2 =>
      cases r2
      rw [r1.str]
      exact ⟨_, _, rfl, ⟨w.1, rfl⟩, k_same s k (.int _) w.2⟩
/-- the ints of a list -/
def ints? : List D → Option (List Int)
  | [] => some []
  | .int i :: r => (ints? r).map (i :: ·)
  | _ :: _ => none
theorem ints_some : ∀ {ds : List D} {ns : List Int}, ints? ds = some ns → ds = ns.map .int
  | [], ns, h => by simp [ints?] at h; subst h; rfl
  | .int i :: r, ns, h => by
    simp only [ints?, Option.map_eq_some_iff] at h
    obtain ⟨ms, h1, rfl⟩ := h
    rw [ints_some h1]; rfl
  | .non :: _, _, h => by simp [ints?] at h
  | .bl _ :: _, _, h => by simp [ints?] at h
  | .str _ :: _, _, h => by simp [ints?] at h
  | .lst _ :: _, _, h => by simp [ints?] at h
  | .tup _ :: _, _, h => by simp [ints?] at h
  | .scr _ :: _, _, h => by simp [ints?] at h
  | .dK _ :: _, _, h => by simp [ints?] at h
  | .dT _ :: _, _, h => by simp [ints?] at h
@[simp] theorem ints_map (ns : List Int) : ints? (ns.map .int) = some ns := by
  induction ns with
  | nil => rfl
  | cons a r ih => simp [ints?, ih]
@[simp] def wInts (w : List Int → (D → Prop) → Prop) : WC
  | [.lst ds], Φ => ∃ ns, ints? ds = some ns ∧ w ns Φ
  | _, _ => False
theorem intsV {K : Fr} {F H : Hp} {vs : List V} {ds : List D} {w : List Int → (D → Prop) → Prop} {Φ : D → Prop} (s : Same F H) (r : BRepL K F H vs ds) (h : wInts w ds Φ) : ∃ a ns, vs = [.ref a] ∧ SqL K H a (ns.map V.int) ∧ w ns Φ := by
  match ds, h with
  | [.lst xs], h =>
    cases r with
    | cons r1 r2 =>
      cases r2
      obtain ⟨a, us, rfl, ea, ra⟩ := r1.lst s
      obtain ⟨ns, h1, h2⟩ := h
      rw [ints_some h1] at ra
      rw [ra.ints] at ea
      exact ⟨a, ns, rfl, .of ea, h2⟩
@[simp] def wSum : WC := wInts fun ns Φ => Φ (.int ns.sum)
theorem d_sum {K : Fr} : DCall K (rSum K) wSum := by
  intro F H vs ds Q Φ s r w k
  obtain ⟨a, ns, rfl, h, w⟩ := intsV s r w
  exact ⟨a, ns, rfl, h, k_same s k (.int _) w⟩
@[simp] def wMaxL : WC := wInts fun ns Φ => 0 < ns.length ∧ ∀ m, m ∈ ns → (∀ y, y ∈ ns → y ≤ m) → Φ (.int m)
@[simp] def wMinL : WC := wInts fun ns Φ => 0 < ns.length ∧ ∀ m, m ∈ ns → (∀ y, y ∈ ns → m ≤ y) → Φ (.int m)
theorem d_maxL {K : Fr} : DCall K (rMax K) wMaxL := by
  intro F H vs ds Q Φ s r w k
  obtain ⟨a, ns, rfl, h, w1, w2⟩ := intsV s r w
  exact ⟨a, ns, rfl, h, w1, fun m h1 h2 => k_same s k (.int _) (w2 m h1 h2)⟩
theorem d_minL {K : Fr} : DCall K (rMin K) wMinL := by
  intro F H vs ds Q Φ s r w k
  obtain ⟨a, ns, rfl, h, w1, w2⟩ := intsV s r w
  exact ⟨a, ns, rfl, h, w1, fun m h1 h2 => k_same s k (.int _) (w2 m h1 h2)⟩
@[simp] def wSortI : WC := wInts fun ns Φ => ∀ ns' : List Int, ns'.Perm ns → ns'.Pairwise (· ≤ ·) → Φ (.lst (ns'.map .int))
theorem f_sortI {K : Fr} : DFCall K (rSortedI K) wSortI := by
  intro F H vs ds Q Φ s r w k
  obtain ⟨a, ns, rfl, h, w⟩ := intsV s r w
  exact ⟨a, ns, rfl, h, fun ns' p h1 h2 n => k_newF s k (.lst (RepL.ofInts ns')) (w ns' h1 h2) p n⟩
@[simp] def w2I (g : Int → Int → Int) : WC
  | [.int i, .int j], Φ => Φ (.int (g i j))
  | _, _ => False
theorem d_2I {K : Fr} {g : Int → Int → Int} : DCall K (fun xs H Q => ∃ i j, xs = [V.int i, .int j] ∧ Q (.int (g i j)) H) (w2I g) := by
  intro F H vs ds Q Φ s r w k
  match ds, w with
  | [.int i, .int j], w =>
    cases r with
    | cons r1 r2 =>
      cases r2 with
      | cons r2 r3 =>
        cases r3
        rw [r1.int, r2.int]
        exact ⟨i, j, rfl, k_same s k (.int _) w⟩
@[simp] def wMax2 : WC := w2I fun i j => if j > i then j else i
@[simp] def wMin2 : WC := w2I fun i j => if j < i then j else i
@[simp] def wInt : WC
  | [.int i], Φ => Φ (.int i)
  | [.bl b], Φ => Φ (.int (if b then 1 else 0))
  | _, _ => False
theorem d_int {K : Fr} : DCall K (fun xs H Q => (∃ i, xs = [V.int i] ∧ Q (.int i) H) ∨ ∃ k, xs = [.bl k] ∧ Q (.int (if k then 1 else 0)) H) wInt := by
  intro F H vs ds Q Φ s r w k
  match ds, w with
  | [.int i], w =>
    cases r with
    | cons r1 r2 => cases r2; rw [r1.int]; exact .inl ⟨i, rfl, k_same s k (.int _) w⟩
  | [.bl i], w =>
    cases r with
    | cons r1 r2 => cases r2; rw [r1.bl]; exact .inr ⟨i, rfl, k_same s k (.int _) w⟩
@[simp] def wAbs : WC
  | [.int i], Φ => Φ (.int (if i < 0 then -i else i))
  | _, _ => False
theorem d_abs {K : Fr} : DCall K (fun xs H Q => ∃ i, xs = [V.int i] ∧ Q (.int (if i < 0 then -i else i)) H) wAbs := by
  intro F H vs ds Q Φ s r w k
  match ds, w with
  | [.int i], w =>
    cases r with
    | cons r1 r2 => cases r2; rw [r1.int]; exact ⟨i, rfl, k_same s k (.int _) w⟩
@[simp] def wDivmod : WC
  | [.int i, .int j], Φ => CDiv i j ∧ Φ (.tup [.int (i / j), .int (i % j)])
  | _, _ => False
theorem d_divmod {K : Fr} : DCall K (fun xs H Q => ∃ i j, xs = [V.int i, .int j] ∧ CDiv i j ∧ ∀ p, H p = none → Q (.ref p) (upd H p (.tup [.int (i / j), .int (i % j)]))) wDivmod := by
  intro F H vs ds Q Φ s r w k
  match ds, w with
  | [.int i, .int j], w =>
    cases r with
    | cons r1 r2 =>
      cases r2 with
      | cons r2 r3 =>
        cases r3
        rw [r1.int, r2.int]
        exact ⟨i, j, rfl, w.1, k_new s k (.tup (.cons (.int _) (.cons (.int _) .nil))) w.2⟩
/-- list(x), of a list or a tuple -/
@[simp] def wList : WC
  | [.lst xs], Φ => Φ (.lst xs)
  | [.tup xs], Φ => Φ (.lst xs)
  | [.scr ns], Φ => Φ (.lst (ns.map .int))
  | _, _ => False
theorem f_list {K : Fr} : DFCall K (fun xs H Q => ∃ p ys, xs = [.ref p] ∧ (SqL K H p ys ∨ SqT K H p ys) ∧ ∀ l, H l = none → Q (.ref l) (upd H l (.lst ys))) wList := by
  intro F H vs ds Q Φ s r w k
  match ds, w with
  | [.lst xs], w =>
    cases r with
    | cons r1 r2 =>
      cases r2
      obtain ⟨a, us, rfl, ea, ra⟩ := r1.lst s
      exact ⟨a, us, rfl, .inl (.of ea), k_newF s k (.lst ra) w⟩
  | [.tup xs], w =>
    cases r with
    | cons r1 r2 =>
      cases r2
      obtain ⟨a, us, rfl, ea, ra⟩ := r1.tup s
      exact ⟨a, us, rfl, .inr (.of ea), k_newF s k (.lst ra) w⟩
  | [.scr ns], w =>
    cases r with
    | cons r1 r2 =>
      cases r2
      obtain ⟨a, rfl, ea⟩ := r1.scr s
      exact ⟨a, _, rfl, .inl ea, k_newF s k (.lst (RepL.ofInts ns)) w⟩
/-- tuple(x) -/
@[simp] def wTuple : WC
  | [.lst xs], Φ => Φ (.tup xs)
  | [.tup xs], Φ => Φ (.tup xs)
  | _, _ => False
theorem d_tuple {K : Fr} : DCall K (fun xs H Q => ∃ p ys, xs = [.ref p] ∧ ((SqL K H p ys ∧ ∀ l, H l = none → Q (.ref l) (upd H l (.tup ys))) ∨ (SqT K H p ys ∧ Q (.ref p) H))) wTuple := by
  intro F H vs ds Q Φ s r w k
  match ds, w with
  | [.lst xs], w =>
    cases r with
    | cons r1 r2 =>
      cases r2
      obtain ⟨a, us, rfl, ea, ra⟩ := r1.lst s
      exact ⟨a, us, rfl, .inl ⟨.of ea, k_new s k (.tup ra) w⟩⟩
  | [.tup xs], w =>
    cases r with
    | cons r1 r2 =>
      cases r2
      obtain ⟨a, us, rfl, ea, ra⟩ := r1.tup s
      refine ⟨a, us, rfl, .inr ⟨.of ea, ?_⟩⟩
      rcases r1 with r1 | ⟨_, _, _, _, _, r1⟩
      · exact k_same s k r1 w
      · cases r1
/-- all, any of a list of bools -/
def bls? : List D → Option (List Bool)
  | [] => some []
  | .bl i :: r => (bls? r).map (i :: ·)
  | _ :: _ => none
theorem bls_some {K : Fr} {F : Hp} : ∀ {ds : List D} {ns : List Bool} {vs : List V}, bls? ds = some ns → RepL K F vs ds → vs = ns.map V.bl
  | [], ns, vs, h, r => by simp [bls?] at h; subst h; cases r; rfl
  | .bl i :: r, ns, vs, h, q => by
    simp only [bls?, Option.map_eq_some_iff] at h
    obtain ⟨ms, h1, rfl⟩ := h
    cases q with
    | cons q1 q2 => rw [q1.bl_inv, bls_some h1 q2]; rfl
  | .non :: _, _, _, h, _ => by simp [bls?] at h
  | .int _ :: _, _, _, h, _ => by simp [bls?] at h
  | .str _ :: _, _, _, h, _ => by simp [bls?] at h
  | .lst _ :: _, _, _, h, _ => by simp [bls?] at h
  | .tup _ :: _, _, _, h, _ => by simp [bls?] at h
  | .scr _ :: _, _, _, h, _ => by simp [bls?] at h
  | .dK _ :: _, _, _, h, _ => by simp [bls?] at h
  | .dT _ :: _, _, _, h, _ => by simp [bls?] at h
@[simp] theorem bls_map (ns : List Bool) : bls? (ns.map .bl) = some ns := by
  induction ns with
  | nil => rfl
  | cons a r ih => simp [bls?, ih]
@[simp] def wBls (g : List Bool → Bool) : WC
  | [.lst ds], Φ => ∃ bs, bls? ds = some bs ∧ Φ (.bl (g bs))
  | _, _ => False
theorem d_bls {K : Fr} {g : List Bool → Bool} : DCall K (fun vs H Q => ∃ (a : Addr) (bs : List Bool), vs = [V.ref a] ∧ SqL K H a (bs.map V.bl) ∧ Q (.bl (g bs)) H) (wBls g) := by
  intro F H vs ds Q Φ s r w k
  match ds, w with
  | [.lst xs], w =>
    cases r with
    | cons r1 r2 =>
      cases r2
      obtain ⟨a, us, rfl, ea, ra⟩ := r1.lst s
      obtain ⟨bs, h1, φ⟩ := w
      exact ⟨a, bs, rfl, by rw [← bls_some h1 ra]; exact .of ea, k_same s k (.bl _) φ⟩
@[simp] def wAll : WC := wBls fun bs => bs.all id
@[simp] def wAny : WC := wBls fun bs => bs.any id
/-! ### isinstance -/
@[simp] def isiB (T : String) : D → Bool
  | .non => false
  | .bl _ => T == "bool" || T == "int"
  | .int _ => T == "int"
  | .str _ => T == "str"
  | .lst _ => T == "list"
  | .scr _ => T == "list"
  | .tup _ => T == "tuple"
  | .dK _ => T == "dict"
  | .dT _ => T == "dict"
def tyN : D → String
  | .non => "NoneType" | .bl _ => "bool" | .int _ => "int" | .str _ => "str" | .lst _ => "list" | .scr _ => "list" | .tup _ => "tuple" | .dK _ => "dict" | .dT _ => "dict"
theorem tyX_of {K : Fr} {F H : Hp} {v : V} {d : D} (s : Same F H) (r : BRep K F H v d) : TyX K H v (.type (tyN d)) := by
  cases d with
  | non => rw [r.non]; exact .base .non
  | bl b => rw [r.bl]; exact .base (.bl b)
  | int b => rw [r.int]; exact .base (.int b)
  | str b => rw [r.str]; exact .base (.str b)
  | lst xs => obtain ⟨a, us, rfl, ea, ra⟩ := r.lst s; exact .base (.lst ea)
  | tup xs => obtain ⟨a, us, rfl, ea, ra⟩ := r.tup s; exact .base (.tup ea)
  | scr ns =>
    obtain ⟨a, rfl, ea⟩ := r.scr s
    rcases ea with (ea | ⟨o, ea⟩) | ⟨o, its, n, h1, h2, _⟩
    · exact .base (.lst ea)
    · exact .base (.frz ea)
    · exact .kList h1 h2
  | dK kvs =>
    rcases r with r | ⟨a, o, rfl, n, q, r⟩
    · cases r with
      | ob e r => cases r; exact .base (.dK (s _ _ e))
    · cases r; exact .base (.dK q)
  | dT kvs =>
    rcases r with r | ⟨a, o, rfl, n, q, r⟩
    · cases r with
      | ob e r => cases r; exact .base (.dT (s _ _ e))
    · cases r; exact .base (.dT q)
@[simp] def wIsi (T : String) : W1 := fun d Φ => Φ (.bl (isiB T d))
theorem de_isi {K : Fr} {X : Cx} {a : Expr} {ta : TE} {fa : WE} {T : String} {p p2 pos : Pos} (ha : DB K X a ta fa) (hm : X.mg "isinstance" = none) (hm2 : X.mg T = none) (hT : bootBuiltins T = some (.type T)) (hk : ∀ d : D, kitB (tyN d) T = some (isiB T d)) (hg : Gl X "isinstance" := by rfl) (hg2 : Gl X (Str.ofString T) := by rfl)
    (hn : (Str.ofString T) ≠ "__name__" := by decide) (hdb : ((Str.ofString T) == ("__debug__" : Str)) = false := by decide)
    (he : starEach [a, .Name (Str.ofString T) p2] X.env = (false, eval a X.env) :: starEach [.Name (Str.ofString T) p2] X.env := by rfl) :
    DE K X (.Call (.Name "isinstance" p) [a, .Name (Str.ofString T) p2] [] pos) (tCB (rIsi K) (tCons ta (tCons (tC (.ty T)) tNil))) (w1 (wIsi T) fa) := by
  obtain rfl := ha.k
  refine ⟨rfl, pe_callB call_isi hg hm (by decide +kernel) (pa_cons ha.p (pa_cons (pe_bltn hg2 hm2 hT rfl hn hdb) pa_nil) he) (by decide) (by decide) he rfl, fun B HB F Γ σ H Q Φ j w k => ha.s B HB F Γ σ H _ _ j w fun v d F' H' g r φ => ?_⟩
  exact ⟨v, _, _, _, isiB T d, rfl, .ty T, tyX_of g.fh r, kit_ty (hk d), k _ _ F' H' g (.bl _) φ⟩
/-! ### the kit's rules, by K -/
section
variable {K : Fr} {X : Cx}
theorem o_cat (_ : X.K = K) : OpR X (binaryOp .Add) rCat := op_cat
theorem o_rep (_ : X.K = K) : OpR X (binaryOp .Mult) rRep := op_rep
theorem o_sub (_ : X.K = K) : OpR X (binaryOp .Sub) (rI0 fun i j => .int (i - j)) := op_sub
theorem o_div (_ : X.K = K) : OpR X (binaryOp .FloorDiv) (rI CDivW fun i j => .int (i / j)) := op_fdivW
theorem o_mod (_ : X.K = K) : OpR X (binaryOp .Mod) (rI (fun _ j => 0 < j) fun i j => .int (i % j)) := op_mod
theorem o_pow (_ : X.K = K) : OpR X (binaryOp .Pow) (rI CPow fun i j => .int (i ^ j.toNat)) := op_pow
theorem o_lt (_ : X.K = K) : OpR X (compareOp .Lt) (rI0 fun i j => .bl (decide (i < j))) := op_lt
theorem o_le (_ : X.K = K) : OpR X (compareOp .LtE) (rI0 fun i j => .bl (decide (i ≤ j))) := op_le
theorem o_gt (_ : X.K = K) : OpR X (compareOp .Gt) (rI0 fun i j => .bl (decide (j < i))) := op_gt
theorem o_ge (_ : X.K = K) : OpR X (compareOp .GtE) (rI0 fun i j => .bl (decide (j ≤ i))) := op_ge
theorem o_iadd (_ : X.K = K) : OpR X (inplaceOp .Add) (rI0 fun i j => .int (i + j)) := iop_add
theorem o_isub (_ : X.K = K) : OpR X (inplaceOp .Sub) (rI0 fun i j => .int (i - j)) := iop_sub
theorem x_seq (hk : X.K = K) : IxR X (rIx K) := by cases hk; exact ix_seq
theorem c_len (hk : X.K = K) : CallR X (.builtin "len") (fun xs H Q => ∃ x n, xs = [x] ∧ LenV K x H n ∧ Q (.int n) H) := by cases hk; exact call_len
theorem c_sum (hc : X.calm = true) (hk : X.K = K) : CallR X (.builtin "sum") (rSum K) := by cases hk; exact cr_sum hc
theorem c_maxL (hc : X.calm = true) (hk : X.K = K) : CallR X (.builtin "max") (rMax K) := by cases hk; exact cr_max hc
theorem c_minL (hc : X.calm = true) (hk : X.K = K) : CallR X (.builtin "min") (rMin K) := by cases hk; exact cr_min hc
theorem c_max2 (hc : X.calm = true) (_ : X.K = K) : CallR X (.builtin "max") (fun xs H Q => ∃ i j, xs = [V.int i, .int j] ∧ Q (.int (if j > i then j else i)) H) := call_max2 hc
theorem c_min2 (hc : X.calm = true) (_ : X.K = K) : CallR X (.builtin "min") (fun xs H Q => ∃ i j, xs = [V.int i, .int j] ∧ Q (.int (if j < i then j else i)) H) := call_min2 hc
theorem c_int (_ : X.K = K) : CallR X (.type "int") (fun xs H Q => (∃ i, xs = [V.int i] ∧ Q (.int i) H) ∨ ∃ k, xs = [.bl k] ∧ Q (.int (if k then 1 else 0)) H) := call_int1
theorem c_abs (_ : X.K = K) : CallR X (.builtin "abs") (fun xs H Q => ∃ i, xs = [V.int i] ∧ Q (.int (if i < 0 then -i else i)) H) := call_abs
theorem c_divmod (_ : X.K = K) : CallR X (.builtin "divmod") (fun xs H Q => ∃ i j, xs = [V.int i, .int j] ∧ CDiv i j ∧ ∀ p, H p = none → Q (.ref p) (upd H p (.tup [.int (i / j), .int (i % j)]))) := call_divmod
theorem c_list (hk : X.K = K) : CallR X (.type "list") (fun xs H Q => ∃ p ys, xs = [.ref p] ∧ (SqL K H p ys ∨ SqT K H p ys) ∧ ∀ l, H l = none → Q (.ref l) (upd H l (.lst ys))) := by cases hk; exact call_list_of
theorem c_tuple (hk : X.K = K) : CallR X (.type "tuple") (fun xs H Q => ∃ p ys, xs = [.ref p] ∧ ((SqL K H p ys ∧ ∀ l, H l = none → Q (.ref l) (upd H l (.tup ys))) ∨ (SqT K H p ys ∧ Q (.ref p) H))) := by cases hk; exact call_tuple_of
theorem c_sortI (hk : X.K = K) : CallR X (.builtin "sorted") (rSortedI K) := by cases hk; exact cr_sortedI
theorem c_all (hc : X.calm = true) (hk : X.K = K) : CallR X (.builtin "all") (rAll K) := by cases hk; exact cr_all hc
theorem c_any (hc : X.calm = true) (hk : X.K = K) : CallR X (.builtin "any") (rAny K) := by cases hk; exact cr_any hc
end
end DL

set_option Elab.async false
set_option linter.all false
set_option maxRecDepth 100000
set_option maxHeartbeats 4000000
namespace DL
open PySem PySem.Spec PyProof.Rows L2

/-! ### in -/
theorem room65 {k : Nat} {A : Around} (hr : Room k A) : A.units + 65 < cLine := by have := hr.un; omega
@[simp] def flatD : D → Bool
  | .non => true | .bl _ => true | .int _ => true | .str _ => true
  | _ => false
@[simp] def wInD (neg : Bool) : W2
  | d, .lst xs, Φ => (shp 9 d = true ∧ shp 9 (.lst xs) = true) ∧ Φ (.bl (if neg then !(xs.any fun z => deq z d) else xs.any fun z => deq z d))
  | d, .tup xs, Φ => (flatD d = true ∧ xs.all flatD = true) ∧ Φ (.bl (if neg then !(xs.any fun z => deq z d) else xs.any fun z => deq z d))
  | _, _, _ => False
@[simp] def wIn : W2 := wInD false
@[simp] def wNotIn : W2 := wInD true
def rInA (K : Fr) : R2 := fun x y H Q => rInD K x y H Q ∨ rIn K false x y H Q
def rNotInA (K : Fr) : R2 := fun x y H Q => rNotInD K x y H Q ∨ rIn K true x y H Q
theorem o_in {K : Fr} {X : Cx} {k : Nat} (hr : Room k X.A) (hk : X.K = K) : OpR X (compareOp .In) (rInA K) := by
  cases hk
  exact (op_inD (room65 hr)).or op_in_seq
theorem o_notIn {K : Fr} {X : Cx} {k : Nat} (hr : Room k X.A) (hk : X.K = K) : OpR X (compareOp .NotIn) (rNotInA K) := by
  cases hk
  exact (op_notInD (room65 hr)).or op_notIn_seq
def toV : D → V
  | .bl b => .bl b | .int i => .int i | .str x => .str x | _ => .non
theorem flat_rep {K : Fr} {F : Hp} {v : V} {d : D} (r : Rep K F v d) (h : flatD d = true) : v = toV d := by
  cases d with
  | non => exact r.non_inv
  | bl b => exact r.bl_inv
  | int b => exact r.int_inv
  | str b => exact r.str_inv
  | _ => cases h
theorem flat_brep {K : Fr} {F H : Hp} {v : V} {d : D} (r : BRep K F H v d) (h : flatD d = true) : v = toV d := by
  rcases r with r | ⟨a, o, rfl, n, q, r⟩
  · exact flat_rep r h
  · cases r <;> cases h
theorem flat_toV {d : D} (h : flatD d = true) : flatV (toV d) = true := by cases d <;> first | rfl | cases h
theorem flat_repL {K : Fr} {F : Hp} : ∀ {vs : List V} {ds : List D}, RepL K F vs ds → ds.all flatD = true → vs = ds.map toV
  | _, _, .nil, _ => rfl
  | _, _, .cons a b, h => by
    simp only [List.all_cons, Bool.and_eq_true] at h
    rw [flat_rep a h.1, flat_repL b h.2]; rfl
theorem eqV_deq {d e : D} (h : flatD d = true) (h' : flatD e = true) : eqV (toV d) (toV e) = deq d e := by
  cases d <;> cases h <;> cases e <;> cases h' <;> simp [toV, eqV, deq, py, PyData.eqv]
theorem inV_deq {d : D} {xs : List D} (h : flatD d = true) (h' : xs.all flatD = true) : inV (toV d) (xs.map toV) = xs.any fun z => deq z d := by
  unfold inV
  rw [List.any_map]
  induction xs with
  | nil => rfl
  | cons z r ih =>
    simp only [List.all_cons, Bool.and_eq_true] at h'
    simp only [List.any_cons, Function.comp, eqV_deq h'.1 h]
    rw [← ih h'.2]
    try rfl
theorem any_py (xs : List D) (d : D) : (pys xs).any (fun z => PyData.eqv z (py d)) = xs.any fun z => deq z d := by
  rw [pys_map, List.any_map]; rfl
theorem d_inD {K : Fr} {neg : Bool} {r : R2} (h1 : ∀ x y H Q d ds, Dp K H x d → Dp K H y (.list ds) → SeqAt.shaped d = true → SeqAt.shaped (.list ds) = true → Q (.bl (if neg then !(ds.any fun z => PyData.eqv z d) else ds.any fun z => PyData.eqv z d)) H → r x y H Q)
    (h2 : ∀ x y H Q, rIn K neg x y H Q → r x y H Q) : DOp2 K r (wInD neg) := by
  intro F H x y d e Q Φ s rx ry w k
  cases e with
  | lst xs =>
    obtain ⟨⟨w1, w2⟩, w3⟩ := w
    refine h1 x y H Q (py d) (pys xs) (dp_of (rx.rep s) w1) (by have := dp_of (ry.rep s) w2; simpa only [py] using this) (shp_shaped w1) (by have := shp_shaped w2; simpa only [py] using this) ?_
    rw [any_py]
    exact k_same s k (.bl _) w3
  | tup xs =>
    obtain ⟨⟨w1, w2⟩, w3⟩ := w
    obtain ⟨a, vs, rfl, ea, ra⟩ := ry.tup s
    refine h2 _ _ _ _ ⟨a, vs, rfl, .inr (.of ea), ?_, ?_, ?_⟩
    · rw [flat_brep rx w1]; exact flat_toV w1
    · rw [flat_repL ra w2, List.all_map]
      rw [List.all_eq_true] at w2 ⊢
      exact fun z hz => flat_toV (w2 z hz)
    · rw [flat_brep rx w1, flat_repL ra w2, inV_deq w1 w2]
      exact k_same s k (.bl _) w3
  | _ => cases d <;> exact w.elim
theorem d_in {K : Fr} : DOp2 K (rInA K) wIn := d_inD (fun x y H Q d ds a b c e f => .inl ⟨d, ds, a, b, c, e, f⟩) fun x y H Q h => .inr h
theorem d_notIn {K : Fr} : DOp2 K (rNotInA K) wNotIn := d_inD (fun x y H Q d ds a b c e f => .inl ⟨d, ds, a, b, c, e, f⟩) fun x y H Q h => .inr h
/-! ### is True -/
@[simp] def wBB (n : Bool) : W2
  | .bl a, .bl b, Φ => Φ (.bl (if n then !decide (a = b) else decide (a = b)))
  | _, _, _ => False
@[simp] def wIsB : W2 := wBB false
@[simp] def wNotB : W2 := wBB true
theorem o_isBl {K : Fr} {X : Cx} (_ : X.K = K) : OpR X (compareOp .Is) rIsB := op_isBl
theorem o_notBl {K : Fr} {X : Cx} (_ : X.K = K) : OpR X (compareOp .IsNot) rNotB := op_notBl
theorem d_isBl {K : Fr} : DOp2 K rIsB wIsB := by
  intro F H x y d e Q Φ s rx ry w k
  cases d with
  | bl a =>
    cases e with
    | bl b => rw [rx.bl, ry.bl]; exact ⟨a, b, rfl, rfl, k_same s k (.bl _) w⟩
    | _ => exact w.elim
  | _ => exact w.elim
theorem d_notBl {K : Fr} : DOp2 K rNotB wNotB := by
  intro F H x y d e Q Φ s rx ry w k
  cases d with
  | bl a =>
    cases e with
    | bl b => rw [rx.bl, ry.bl]; exact ⟨a, b, rfl, rfl, k_same s k (.bl _) w⟩
    | _ => exact w.elim
  | _ => exact w.elim
@[simp] def wAddI : W2 := wII (fun _ _ => True) fun i j => .int (i + j)
theorem d_addI {K : Fr} : DOp2 K (rI0 fun i j => .int (i + j)) wAddI := d_ii0 fun _ _ _ => .int _
theorem kit_list : ∀ d : D, kitB (tyN d) "list" = some (isiB "list" d) := fun d => by cases d <;> simp only [tyN, isiB] <;> decide +kernel
theorem kit_tuple : ∀ d : D, kitB (tyN d) "tuple" = some (isiB "tuple" d) := fun d => by cases d <;> simp only [tyN, isiB] <;> decide +kernel
theorem kit_bool : ∀ d : D, kitB (tyN d) "bool" = some (isiB "bool" d) := fun d => by cases d <;> simp only [tyN, isiB] <;> decide +kernel
theorem kit_int : ∀ d : D, kitB (tyN d) "int" = some (isiB "int" d) := fun d => by cases d <;> simp only [tyN, isiB] <;> decide +kernel
theorem kit_str : ∀ d : D, kitB (tyN d) "str" = some (isiB "str" d) := fun d => by cases d <;> simp only [tyN, isiB] <;> decide +kernel
section
variable {K : Fr} {X : Cx} {e a b : Expr} {t ta : TE} {f fa : WE} {th : TA} {h : WA} {pos p : Pos}
/-- not e, as a value, by truth -/
@[simp] def wNotT (f : WE) : WE := fun Γ Φ => f Γ fun d => truD d fun c => Φ (.bl (!c))
theorem de_notT (ha : DB K X a ta fa) : DE K X (.UnaryOp .Not a pos) (tNotT K ta) (wNotT fa) := by
  obtain rfl := ha.k
  refine ⟨rfl, pe_notT ha.p, fun B HB F Γ σ H Q Φ j w k => ha.s B HB F Γ σ H _ _ j w fun v d F' H' g r φ => ?_⟩
  obtain ⟨c, h1, h2⟩ := tru_of g.fh r φ
  exact ⟨c, h1, k _ _ F' H' g (.bl _) h2⟩
/-- xs[::-1] -/
@[simp] def wRev : W1
  | .lst xs, Φ => Φ (.lst xs.reverse)
  | _, _ => False
theorem df_rev {k : Nat} {p1 p2 p3 : Pos} (ha : DB K X a ta fa) : DF K X (.Subscript a (.Slice none none (some (.UnaryOp .USub (.Constant (.int 1) k p1) p2)) p3) pos) (tRevL K ta) (w1 wRev fa) := by
  obtain rfl := ha.k
  refine ⟨rfl, pe_revL ha.p, fun B HB F Γ σ H Q Φ j w k => ha.s B HB F Γ σ H _ _ j w fun v d F' H' g r φ => ?_⟩
  cases d with
  | lst xs =>
    obtain ⟨a, us, rfl, ea, ra⟩ := r.lst g.fh
    exact ⟨a, us, rfl, .of ea, fun p n => k p _ _ F' _ (g.trans (.newH g.fh n)) (g.fh.free n) (g.hh.free n) upd_same (.lst ra.reverse) φ⟩
  | _ => exact φ.elim
theorem di_zip {elts : List Expr} {kk : Nat} {tpos : Pos} (hm : X.mg "zip" = none) (ha : DA K X [a, b] th h) (hg : Gl X "zip" := by rfl)
    (hs : starEach [a, b] X.env = (false, eval a X.env) :: starEach [b] X.env := by rfl) (hpl : (backTo pos (starEach [b] X.env)).any (·.1) = false := by rfl) :
    DI K X (.Tuple elts kk tpos) (.Call (.Name "zip" p) [a, b] [] pos) (iZip K th) (wItZ h) := by
  obtain ⟨rfl, pt, q⟩ := ha
  refine ⟨rfl, pi_zip hg hm pt hs hpl, fun B HB F Γ σ H R Φ j w k => q B HB F Γ σ H _ _ j w fun vs ds F' H' g r φ => ?_⟩
  match ds, φ with
  | [.lst ds, .lst es], φ =>
    cases r with
    | cons r1 r2 =>
      cases r2 with
      | cons r2 r3 =>
        cases r3
        obtain ⟨a, vs, rfl, e, rl⟩ := r1.lst_inv
        obtain ⟨b, ws, rfl, e', rl'⟩ := r2.lst_inv
        exact ⟨a, b, vs, ws, rfl, .of (g.fh _ _ e), .of (g.fh _ _ e'), k _ _ F' H' g (wk_zip (.of e) rl (.of e') rl') φ⟩
/-- xs.append(ys.pop(e)), two names' own lists -/
@[simp] def sAppPop (i l : Nat) (fe : WE) : WS := fun Γ κ => ∃ xs ys, i ≠ l ∧ Γ[i]? = some (some (.own (.lst xs))) ∧ Γ[l]? = some (some (.own (.lst ys))) ∧ fe Γ fun kd => ∃ kk jj z, kd = .int kk ∧ -(2 ^ 63) ≤ kk ∧ kk < 2 ^ 63 ∧ seqIndex? kk ys.length = some jj ∧ ys[jj]? = some z ∧ xs.length < sizeLine ∧
  κ.nx ((Γ.set l (some (.own (.lst (ys.eraseIdx jj))))).set i (some (.own (.lst (xs ++ [z])))))
theorem apop_sound {fr : Bool} {i l : Nat} (he : SE K t f) : SS fr K (tDrop (tBM K "list" rAppend (tVar i) (tCons (tBM K "list" rPopAt (tVar l) (tCons t tNil)) tNil))) (sAppPop i l f) := by
  intro B HB F Γ σ H D κ j w k
  obtain ⟨xs, ys, nil', e1, e2, w⟩ := w
  obtain ⟨a, vs, ea, m1, m2, q, r⟩ := ownL j e1
  obtain ⟨b, us, eb, m3, m4, q', r'⟩ := ownL j e2
  refine ⟨_, ea, .inl ⟨rfl, _, .of q⟩, ?_⟩
  refine ⟨_, eb, .inl ⟨rfl, _, .of q'⟩, he B HB F Γ σ H _ _ j w fun z zd F1 H1 g1 r1 w1 => ?_⟩
  obtain ⟨kk, jj, z, rfl, b1, b2, hj, hz, hl, w1⟩ := w1
  rw [r1.int_inv]
  have j1 := j.grow g1
  obtain ⟨b', us', eb', _, _, q2, rl⟩ := ownL j1 e2
  rw [eb] at eb'
  cases eb'
  obtain ⟨v, hv, rv⟩ := rl.get hz
  refine ⟨b, us', kk, jj, v, rfl, rfl, q2, b1, b2, by rw [rl.length]; exact hj, hv, ?_⟩
  have j2 := j1.write e2 eb (.lst (rl.eraseIdx jj))
  have e1' : (Γ.set l (some (.own (.lst (ys.eraseIdx jj)))))[i]? = some (some (.own (.lst xs))) := by rw [List.getElem?_set_ne (Ne.symm nil')]; exact e1
  obtain ⟨a', vs', ea', _, _, q3, rl3⟩ := ownL j2 e1'
  rw [ea] at ea'
  cases ea'
  refine ⟨a, vs', v, rfl, rfl, q3, by rw [rl3.length]; exact hl, ?_⟩
  exact k.nx F1 _ σ _ (j2.write e1' ea (.lst (rl3.append (.cons rv .nil)))) w1
end
section
variable {K : Fr} {X : Cx} {fr : Bool} {e o : Expr} {es : List Expr} {te to : TE} {fe : WE} {pos p1 p2 p3 : Pos}
theorem app_pe {i : Nat} {t : TA} (hk : X.K = K) (he : PA X [e] t) (ho : PE X o to) (hbase : attributeBase o "append" X.env (eval o X.env) = eval o X.env)
    (hfew : ((backTo p3 (starEach [e] X.env)).all (fun x => !x.1) && (backToKw p3 (keywordEach [] X.env)).all (fun x => x.1.isSome)
      && decide ([e].length + ([] : List Keyword).length + (if ([] : List Keyword).isEmpty then 0 else 1) < 30)) = true)
    (hline : (p2.endLine == p3.line) = true) (hs : starEach [e] X.env = (false, eval e X.env) :: starEach [] X.env) :
    PE X (.Call (.Attribute o "append" p2) [e] [] p3) (tBM K "list" rAppend to t) := by
  cases hk
  exact pe_bm PySem.F.plainAttrs_list PySem.F.slot_list_append PySem.F.type_list_append mt_append ho he hbase hfew hline hs rfl
theorem ds_app (i : Nat) {x : Str} (he : DE K X e te fe) (hN : X.N[i]? = some x := by rfl) (hv : Vis X.env.scope x := by first | exact Or.inl rfl | exact Or.inr (Or.inl rfl) | exact Or.inr (Or.inr rfl)) (hd : (x == ("__debug__" : Str)) = false := by decide)
    (hcd : (x == ("__classdict__" : Str)) = false := by decide) (hbase : attributeBase (.Name x p1) "append" X.env (eval (.Name x p1) X.env) = eval (.Name x p1) X.env := by rfl)
    (hfew : ((backTo p3 (starEach [e] X.env)).all (fun x => !x.1) && (backToKw p3 (keywordEach [] X.env)).all (fun x => x.1.isSome)
      && decide ([e].length + ([] : List Keyword).length + (if ([] : List Keyword).isEmpty then 0 else 1) < 30)) = true := by rfl)
    (hline : (p2.endLine == p3.line) = true := by rfl) (hs : starEach [e] X.env = (false, eval e X.env) :: starEach [] X.env := by rfl) (hsw : swapsWith (.Call (.Attribute (.Name x p1) "append" p2) [e] [] p3) none pos.line X.env = pure false := by rfl) :
    DS fr K X (.Expr (.Call (.Attribute (.Name x p1) "append" p2) [e] [] p3) pos) (tDrop (tBM K "list" rAppend (tVar i) (tCons te tNil))) (sApp i fe) :=
  ⟨he.k, ps_expr (app_pe (i := i) he.k (pa_cons he.p pa_nil hs) (pe_var hN hv hd hcd) hbase hfew hline hs) hsw, app_sound he.s⟩
theorem ds_appPop (i l : Nat) {x y : Str} {q1 q2 q3 : Pos} (he : DE K X e te fe) (hN : X.N[i]? = some x := by rfl) (hv : Vis X.env.scope x := by first | exact Or.inl rfl | exact Or.inr (Or.inl rfl) | exact Or.inr (Or.inr rfl)) (hd : (x == ("__debug__" : Str)) = false := by decide)
    (hcd : (x == ("__classdict__" : Str)) = false := by decide) (hN' : X.N[l]? = some y := by rfl) (hv' : Vis X.env.scope y := by first | exact Or.inl rfl | exact Or.inr (Or.inl rfl) | exact Or.inr (Or.inr rfl)) (hd' : (y == ("__debug__" : Str)) = false := by decide)
    (hcd' : (y == ("__classdict__" : Str)) = false := by decide) (hbase : attributeBase (.Name x p1) "append" X.env (eval (.Name x p1) X.env) = eval (.Name x p1) X.env := by rfl)
    (hbase' : attributeBase (.Name y q1) "pop" X.env (eval (.Name y q1) X.env) = eval (.Name y q1) X.env := by rfl)
    (hfew : ((backTo p3 (starEach [.Call (.Attribute (.Name y q1) "pop" q2) [e] [] q3] X.env)).all (fun x => !x.1) && (backToKw p3 (keywordEach [] X.env)).all (fun x => x.1.isSome)
      && decide ([Expr.Call (.Attribute (.Name y q1) "pop" q2) [e] [] q3].length + ([] : List Keyword).length + (if ([] : List Keyword).isEmpty then 0 else 1) < 30)) = true := by rfl)
    (hfew' : ((backTo q3 (starEach [e] X.env)).all (fun x => !x.1) && (backToKw q3 (keywordEach [] X.env)).all (fun x => x.1.isSome)
      && decide ([e].length + ([] : List Keyword).length + (if ([] : List Keyword).isEmpty then 0 else 1) < 30)) = true := by rfl)
    (hline : (p2.endLine == p3.line) = true := by rfl) (hline' : (q2.endLine == q3.line) = true := by rfl) (hs' : starEach [e] X.env = (false, eval e X.env) :: starEach [] X.env := by rfl)
    (hs : starEach [.Call (.Attribute (.Name y q1) "pop" q2) [e] [] q3] X.env = (false, eval (.Call (.Attribute (.Name y q1) "pop" q2) [e] [] q3) X.env) :: starEach [] X.env := by rfl)
    (hsw : swapsWith (.Call (.Attribute (.Name x p1) "append" p2) [.Call (.Attribute (.Name y q1) "pop" q2) [e] [] q3] [] p3) none pos.line X.env = pure false := by rfl) :
    DS fr K X (.Expr (.Call (.Attribute (.Name x p1) "append" p2) [.Call (.Attribute (.Name y q1) "pop" q2) [e] [] q3] [] p3) pos) (tDrop (tBM K "list" rAppend (tVar i) (tCons (tBM K "list" rPopAt (tVar l) (tCons te tNil)) tNil))) (sAppPop i l fe) :=
  by
  obtain rfl := he.k
  exact ⟨rfl, ps_expr (app_pe (i := i) rfl (pa_cons (pe_bm PySem.F.plainAttrs_list PySem.F.slot_list_pop PySem.F.type_list_pop mt_popAt (pe_var hN' hv' hd' hcd') (pa_cons he.p pa_nil hs') hbase' hfew' hline' hs' rfl) pa_nil hs) (pe_var hN hv hd hcd) hbase hfew hline hs) hsw, apop_sound he.s⟩
end
end DL

set_option Elab.async false
set_option linter.all false
set_option maxRecDepth 100000
set_option maxHeartbeats 4000000
namespace DL
open PySem PySem.Spec PyProof.Rows L2

/-! ### list(range(..)), tuple(range(..)) -/
theorem repL_rg {K : Fr} {F : Hp} (a b : Int) : RepL K F (rgV a b) (rngD a (b - a).toNat) := by
  unfold rgV rngD
  have : ∀ l : List Nat, RepL K F (l.map fun i => V.int (a + (i : Nat))) (l.map fun (i : Nat) => D.int (a + i)) := fun l => by
    induction l with
    | nil => exact .nil
    | cons x r ih => exact .cons (.int _) ih
  exact this _
@[simp] def wRgL (mk : List D → D) : List D → (D → Prop) → Prop
  | [.int n], Φ => (-(2 ^ 62) ≤ n ∧ n ≤ 2 ^ 24) ∧ Φ (mk (rngD 0 n.toNat))
  | [.int i, .int j], Φ => (0 ≤ i ∧ i ≤ 2 ^ 24 ∧ 0 ≤ j ∧ j ≤ 2 ^ 24) ∧ Φ (mk (rngD i (j - i).toNat))
  | _, _ => False
@[simp] def wRg (mk : List D → D) (h : WA) : WE := fun Γ Φ => h Γ fun ds => wRgL mk ds Φ
section
variable {K : Fr} {X : Cx} {e a b o : Expr} {es : List Expr} {t ta tb te to : TE} {f fa fb fe fo : WE} {th : TA} {h : WA} {pos p p1 p2 p3 : Pos}
theorem df_listRg1 (hc : X.calm = true) (hm : X.mg "list" = none) (hm2 : X.mg "range" = none) (ha : DE K X a ta fa) (hg : Gl X "list" := by rfl) (hg2 : Gl X "range" := by rfl) (hs : starEach [a] X.env = (false, eval a X.env) :: starEach [] X.env := by rfl)
    (hs2 : starEach [.Call (.Name "range" p1) [a] [] p2] X.env = (false, eval (.Call (.Name "range" p1) [a] [] p2) X.env) :: starEach [] X.env := by rfl) :
    DF K X (.Call (.Name "list" p) [.Call (.Name "range" p1) [a] [] p2] [] pos) (tLstRg (tRg1 ta)) (wRg .lst (wCons fa wNil)) := by
  obtain ⟨rfl, pt, q⟩ := ha
  refine ⟨rfl, pe_listRg hc hg hm (prg_1 hg2 hm2 pt hs) hs2, fun B HB F Γ σ H Q Φ j w k => q B HB F Γ σ H _ _ j w fun v d F' H' g r φ => ?_⟩
  cases d with
  | int n =>
    obtain ⟨φ1, φ⟩ := φ
    refine ⟨n, r.int_inv, ⟨by omega, by omega, by omega, by omega, by omega⟩, fun q n1 => ?_⟩
    refine k q _ _ F' _ (g.trans (.newH g.fh n1)) (g.fh.free n1) (g.hh.free n1) upd_same (.lst (repL_rg 0 n)) ?_
    rw [Int.sub_zero]; exact φ
  | _ => exact φ.elim
theorem df_listRg2 (hc : X.calm = true) (hm : X.mg "list" = none) (hm2 : X.mg "range" = none) (ha : DE K X a ta fa) (hb : DE K X b tb fb) (hg : Gl X "list" := by rfl) (hg2 : Gl X "range" := by rfl) (hs : starEach [a, b] X.env = (false, eval a X.env) :: starEach [b] X.env := by rfl) (hsb : starEach [b] X.env = (false, eval b X.env) :: starEach [] X.env := by rfl)
    (hp : (backTo p2 (starEach [b] X.env)).any (·.1) = false := by rfl)
    (hs2 : starEach [.Call (.Name "range" p1) [a, b] [] p2] X.env = (false, eval (.Call (.Name "range" p1) [a, b] [] p2) X.env) :: starEach [] X.env := by rfl) :
    DF K X (.Call (.Name "list" p) [.Call (.Name "range" p1) [a, b] [] p2] [] pos) (tLstRg (tRg2 ta tb)) (wRg .lst (wCons fa (wCons fb wNil))) := by
  obtain ⟨rfl, pt, q⟩ := ha
  obtain ⟨_, pt', q'⟩ := hb
  refine ⟨rfl, pe_listRg hc hg hm (prg_2 hg2 hm2 pt pt' hs hsb hp) hs2, fun B HB F Γ σ H Q Φ j w k => q B HB F Γ σ H _ _ j w fun v d F1 H1 g1 r1 φ => ?_⟩
  refine q' B HB F1 Γ σ H1 _ _ (j.grow g1) φ fun v2 d2 F2 H2 g2 r2 φ => ?_
  cases d with
  | int i =>
    cases d2 with
    | int i2 =>
      obtain ⟨φ1, φ⟩ := φ
      refine ⟨i, i2, r1.int_inv, r2.int_inv, ⟨by omega, by omega, by omega, by omega, by omega⟩, fun q n1 => ?_⟩
      have g := g1.trans g2
      exact k q _ _ F2 _ (g.trans (.newH g.fh n1)) (g.fh.free n1) (g.hh.free n1) upd_same (.lst (repL_rg i i2)) φ
    | _ => exact φ.elim
  | _ => exact φ.elim
theorem de_tupRg1 (hc : X.calm = true) (hm : X.mg "tuple" = none) (hm2 : X.mg "range" = none) (ha : DE K X a ta fa) (hg : Gl X "tuple" := by rfl) (hg2 : Gl X "range" := by rfl) (hs : starEach [a] X.env = (false, eval a X.env) :: starEach [] X.env := by rfl)
    (hs2 : starEach [.Call (.Name "range" p1) [a] [] p2] X.env = (false, eval (.Call (.Name "range" p1) [a] [] p2) X.env) :: starEach [] X.env := by rfl) :
    DE K X (.Call (.Name "tuple" p) [.Call (.Name "range" p1) [a] [] p2] [] pos) (tTupRg (tRg1 ta)) (wRg .tup (wCons fa wNil)) := by
  obtain ⟨rfl, pt, q⟩ := ha
  refine ⟨rfl, pe_tupRg hc hg hm (prg_1 hg2 hm2 pt hs) hs2, fun B HB F Γ σ H Q Φ j w k => q B HB F Γ σ H _ _ j w fun v d F' H' g r φ => ?_⟩
  cases d with
  | int n =>
    obtain ⟨φ1, φ⟩ := φ
    refine ⟨n, r.int_inv, ⟨by omega, by omega, by omega, by omega, by omega⟩, fun q n1 => ?_⟩
    have g2 := Grow.new (p := q) (o := .tup (rgV 0 n)) g.fh n1
    refine k _ _ _ _ (g.trans g2) (.ob upd_same (.tup (repL_rg 0 n))) ?_
    rw [Int.sub_zero]; exact φ
  | _ => exact φ.elim
/-! ### xs.index(y) -/
@[simp] def wIdx (fo fe : WE) : WE := fun Γ Φ => fo Γ fun x => ∃ xs, x = .lst xs ∧ fe Γ fun y => (shp 9 (.lst xs) = true ∧ shp 9 y = true) ∧ ∃ (j : Nat) (z : D), xs[j]? = some z ∧ deq z y = true ∧ (∀ (m : Nat) (z' : D), m < j → xs[m]? = some z' → deq z' y = false) ∧ Φ (.int (j : Nat))
theorem de_index {k : Nat} (hr : Room k X.A) (ho : DB K X o to fo) (he : DB K X e te fe) (hbase : attributeBase o "index" X.env (eval o X.env) = eval o X.env := by rfl)
    (hfew : ((backTo pos (starEach [e] X.env)).all (fun x => !x.1) && (backToKw pos (keywordEach [] X.env)).all (fun x => x.1.isSome)
      && decide ([e].length + ([] : List Keyword).length + (if ([] : List Keyword).isEmpty then 0 else 1) < 30)) = true := by rfl)
    (hline : (p1.endLine == pos.line) = true := by rfl) (hs : starEach [e] X.env = (false, eval e X.env) :: starEach [] X.env := by rfl) :
    DE K X (.Call (.Attribute o "index" p1) [e] [] pos) (tBM K "list" (rIndexD K) to (tCons te tNil)) (wIdx fo fe) := by
  obtain ⟨rfl, po, qo⟩ := ho
  obtain ⟨_, pe, qe⟩ := he
  refine ⟨rfl, pe_bm PySem.F.plainAttrs_list PySem.F.slot_list_index PySem.F.type_list_index (mt_indexD (room65 hr)) po (pa_cons pe pa_nil hs) hbase hfew hline hs rfl, fun B HB F Γ σ H Q Φ j w k => ?_⟩
  refine qo B HB F Γ σ H _ _ j w fun v d F1 H1 g1 r1 φ => ?_
  obtain ⟨xs, rfl, φ⟩ := φ
  obtain ⟨a, us, rfl, ea, ra⟩ := r1.lst g1.fh
  refine ⟨.inl ⟨rfl, _, .of ea⟩, ?_⟩
  refine qe B HB F1 Γ σ H1 _ _ (j.grow g1) φ fun v2 y F2 H2 g2 r2 φ => ?_
  obtain ⟨⟨w1, w2⟩, jj, z, hz, hd, hm, φ⟩ := φ
  have rx := (r1.grow g2).rep g2.fh
  refine ⟨a, v2, py y, pys xs, jj, py z, rfl, rfl, by have := dp_of rx w1; simpa only [py] using this, dp_of (r2.rep g2.fh) w2, by have := shp_shaped w1; simpa only [py] using this, shp_shaped w2, ?_, hd, fun m z' h1 h2 => ?_, k _ _ F2 H2 (g1.trans g2) (.int _) φ⟩
  · rw [pys_map, List.getElem?_map, hz]; rfl
  · rw [pys_map, List.getElem?_map] at h2
    cases q : xs[m]? with
    | none => rw [q] at h2; cases h2
    | some z2 => rw [q] at h2; cases h2; exact hm m z2 h1 q
end
/-! ### min, max of a tuple of ints -/
section
variable {prog : Program} {w : World} {A : Around} {E : Value → Shared → Prop} {s : Shared} {l : Addr}
theorem tup_fp {vs : Array Value} (hl : s.heap.IsTuple l vs) (o : Obj) : ∀ b ∈ [s.heap.objs.size, l], b < (s.heap.push o).objs.size := by
  intro b hb
  have hlt : l < s.heap.objs.size := by obtain ⟨_, e, _⟩ := hl; exact Heap.lt_size e
  rw [Heap.size_push]
  rcases List.mem_cons.mp hb with rfl | hb
  · exact Nat.lt_succ_self _
  · rcases List.mem_cons.mp hb with rfl | hb
    · exact Nat.lt_succ_of_lt hlt
    · cases hb
theorem minT_raw {its : List Value} {ns : List Int} {Q : Value → Shared → Prop} (hh : A.handled = none) (hl : s.heap.IsTuple l its.toArray) (hi : IntsAre its ns) (hne : 0 < ns.length)
    (h : ∀ h' tk M t', (∀ b o, s.heap.get? b = some o → h'.get? b = some o) → M ∈ ns → (∀ a, a ∈ ns → M ≤ a) → Q (.int M t') { s with heap := h', toks := tk }) : wpAny (model prog w) A (call (.builtin "min") [.ref l]) Q E s := by
  obtain ⟨xs, e⟩ := hi.allInts.items
  have hn : numsOf (intItems xs).toList = ns := by rw [← e]; exact hi.numsOf
  rw [nums_intItems] at hn
  subst hn
  rw [e] at hl
  have hsz : 0 < xs.size := by simpa using hne
  have hlt : l < s.heap.objs.size := by obtain ⟨_, e, _⟩ := hl; exact Heap.lt_size e
  refine call_min_walk (wpAny_pyIter_tuple hl ?_)
  refine ⟨_, [_, l], [_], _, _, _, _, rfl, Walks.tuple (A := A.in1) hh _ l (Nat.ne_of_lt hlt) (intItems xs), ⟨⟨_, Heap.get?_push_size _ rfl, rfl, rfl⟩, hl.push _⟩, tup_fp hl _, by simpa [intItems] using hsz, CmpOf.ints_lt (numAt xs) (fun _ _ => intItems_at), fun v h' tk hP hk => ?_⟩
  have hold : ∀ b o, s.heap.get? b = some o → h'.get? b = some o := fun b o e => hk b o (fun hm => by have := Heap.lt_size e; rw [List.mem_singleton.mp hm] at this; exact Nat.lt_irrefl _ this) (Heap.get?_push_of_some _ e)
  have hv : (intItems xs)[argBest (fun i j => decide (numAt xs i < numAt xs j)) (xs.size - 1)]? = some v := by simpa [intItems] using hP
  obtain ⟨t, rfl⟩ := intItems_at hv
  obtain ⟨h1, h2⟩ := argBest_lt (numAt xs) (xs.size - 1)
  refine h h' tk _ t hold ?_ fun a ha => ?_
  · rw [numAt_eq]; exact PySem.getD_mem (by rw [List.length_map, Array.length_toList]; omega)
  · obtain ⟨j, hj, rfl⟩ := mem_getD ha
    rw [List.length_map, Array.length_toList] at hj
    rw [← numAt_eq]; exact h2 j (by omega)
theorem maxT_raw {its : List Value} {ns : List Int} {Q : Value → Shared → Prop} (hh : A.handled = none) (hl : s.heap.IsTuple l its.toArray) (hi : IntsAre its ns) (hne : 0 < ns.length)
    (h : ∀ h' tk M t', (∀ b o, s.heap.get? b = some o → h'.get? b = some o) → M ∈ ns → (∀ a, a ∈ ns → a ≤ M) → Q (.int M t') { s with heap := h', toks := tk }) : wpAny (model prog w) A (call (.builtin "max") [.ref l]) Q E s := by
  obtain ⟨xs, e⟩ := hi.allInts.items
  have hn : numsOf (intItems xs).toList = ns := by rw [← e]; exact hi.numsOf
  rw [nums_intItems] at hn
  subst hn
  rw [e] at hl
  have hsz : 0 < xs.size := by simpa using hne
  have hlt : l < s.heap.objs.size := by obtain ⟨_, e, _⟩ := hl; exact Heap.lt_size e
  refine call_max_walk (wpAny_pyIter_tuple hl ?_)
  refine ⟨_, [_, l], [_], _, _, _, _, rfl, Walks.tuple (A := A.in1) hh _ l (Nat.ne_of_lt hlt) (intItems xs), ⟨⟨_, Heap.get?_push_size _ rfl, rfl, rfl⟩, hl.push _⟩, tup_fp hl _, by simpa [intItems] using hsz, CmpOf.ints_gt (numAt xs) (fun _ _ => intItems_at), fun v h' tk hP hk => ?_⟩
  have hold : ∀ b o, s.heap.get? b = some o → h'.get? b = some o := fun b o e => hk b o (fun hm => by have := Heap.lt_size e; rw [List.mem_singleton.mp hm] at this; exact Nat.lt_irrefl _ this) (Heap.get?_push_of_some _ e)
  have hv : (intItems xs)[argBest (fun i j => decide (numAt xs i > numAt xs j)) (xs.size - 1)]? = some v := by simpa [intItems] using hP
  obtain ⟨t, rfl⟩ := intItems_at hv
  obtain ⟨h1, h2⟩ := argBest_gt (numAt xs) (xs.size - 1)
  refine h h' tk _ t hold ?_ fun a ha => ?_
  · rw [numAt_eq]; exact PySem.getD_mem (by rw [List.length_map, Array.length_toList]; omega)
  · obtain ⟨j, hj, rfl⟩ := mem_getD ha
    rw [List.length_map, Array.length_toList] at hj
    rw [← numAt_eq]; exact h2 j (by omega)
end
def rMinA (K : Fr) : List V → Hp → VK → Prop := fun vs H Q => ∃ (a : Addr) (ns : List Int), vs = [V.ref a] ∧ (SqL K H a (ns.map V.int) ∨ SqT K H a (ns.map V.int)) ∧ 0 < ns.length ∧ ∀ m, m ∈ ns → (∀ y, y ∈ ns → m ≤ y) → Q (.int m) H
def rMaxA (K : Fr) : List V → Hp → VK → Prop := fun vs H Q => ∃ (a : Addr) (ns : List Int), vs = [V.ref a] ∧ (SqL K H a (ns.map V.int) ∨ SqT K H a (ns.map V.int)) ∧ 0 < ns.length ∧ ∀ m, m ∈ ns → (∀ y, y ∈ ns → y ≤ m) → Q (.int m) H
theorem c_minA {K : Fr} {X : Cx} (hc : X.calm = true) (hk : X.K = K) : CallR X (.builtin "min") (rMinA K) := by
  cases hk
  intro pins s σ H vs us Q I r h
  obtain ⟨a, ns, rfl, hs, hne, q⟩ := h
  rcases hs with hs | hs
  · exact cr_min hc pins s σ H _ us Q I r ⟨a, ns, rfl, hs, hne, q⟩
  · obtain ⟨its, rv, hl, _⟩ := I.tuple hs
    rw [Vals.ref1 r]
    exact minT_raw (I.ok.hd hc) hl rv.ints hne fun h' tk m t' hk h1 h2 => ⟨.int _, H, I.kept hk, ⟨_, rfl⟩, q m h1 h2⟩
theorem c_maxA {K : Fr} {X : Cx} (hc : X.calm = true) (hk : X.K = K) : CallR X (.builtin "max") (rMaxA K) := by
  cases hk
  intro pins s σ H vs us Q I r h
  obtain ⟨a, ns, rfl, hs, hne, q⟩ := h
  rcases hs with hs | hs
  · exact cr_max hc pins s σ H _ us Q I r ⟨a, ns, rfl, hs, hne, q⟩
  · obtain ⟨its, rv, hl, _⟩ := I.tuple hs
    rw [Vals.ref1 r]
    exact maxT_raw (I.ok.hd hc) hl rv.ints hne fun h' tk m t' hk h1 h2 => ⟨.int _, H, I.kept hk, ⟨_, rfl⟩, q m h1 h2⟩
@[simp] def wIntsA (w : List Int → (D → Prop) → Prop) : WC
  | [.lst ds], Φ => ∃ ns, ints? ds = some ns ∧ w ns Φ
  | [.tup ds], Φ => ∃ ns, ints? ds = some ns ∧ w ns Φ
  | _, _ => False
theorem intsAV {K : Fr} {F H : Hp} {vs : List V} {ds : List D} {w : List Int → (D → Prop) → Prop} {Φ : D → Prop} (s : Same F H) (r : BRepL K F H vs ds) (h : wIntsA w ds Φ) : ∃ a ns, vs = [.ref a] ∧ (SqL K H a (ns.map V.int) ∨ SqT K H a (ns.map V.int)) ∧ w ns Φ := by
  match ds, h with
  | [.lst xs], h =>
    cases r with
    | cons r1 r2 =>
      cases r2
      obtain ⟨a, us, rfl, ea, ra⟩ := r1.lst s
      obtain ⟨ns, h1, h2⟩ := h
      rw [ints_some h1] at ra
      rw [ra.ints] at ea
      exact ⟨a, ns, rfl, .inl (.of ea), h2⟩
  | [.tup xs], h =>
    cases r with
    | cons r1 r2 =>
      cases r2
      obtain ⟨a, us, rfl, ea, ra⟩ := r1.tup s
      obtain ⟨ns, h1, h2⟩ := h
      rw [ints_some h1] at ra
      rw [ra.ints] at ea
      exact ⟨a, ns, rfl, .inr (.of ea), h2⟩
@[simp] def wMaxA : WC := wIntsA fun ns Φ => 0 < ns.length ∧ ∀ m, m ∈ ns → (∀ y, y ∈ ns → y ≤ m) → Φ (.int m)
@[simp] def wMinA : WC := wIntsA fun ns Φ => 0 < ns.length ∧ ∀ m, m ∈ ns → (∀ y, y ∈ ns → m ≤ y) → Φ (.int m)
theorem d_maxA {K : Fr} : DCall K (rMaxA K) wMaxA := by
  intro F H vs ds Q Φ s r w k
  obtain ⟨a, ns, rfl, h, w1, w2⟩ := intsAV s r w
  exact ⟨a, ns, rfl, h, w1, fun m h1 h2 => k_same s k (.int _) (w2 m h1 h2)⟩
theorem d_minA {K : Fr} : DCall K (rMinA K) wMinA := by
  intro F H vs ds Q Φ s r w k
  obtain ⟨a, ns, rfl, h, w1, w2⟩ := intsAV s r w
  exact ⟨a, ns, rfl, h, w1, fun m h1 h2 => k_same s k (.int _) (w2 m h1 h2)⟩
/-! ### slices of tuples -/
@[simp] def slT : D → Option Int → Option Int → (D → Prop) → Prop
  | .tup xs, l, u, Φ => Φ (.tup (cutD xs l u))
  | _, _, _, _ => False
section
variable {K : Fr} {X : Cx} {a : Expr} {lo hi : Option Expr} {ta : TE} {tl tu : TO} {fa : WE} {fl fh : WO} {pos p2 : Pos}
theorem de_sliceT (ha : DB K X a ta fa) (hl : DO K X lo tl fl) (hh : DO K X hi tu fh) : DE K X (.Subscript a (.Slice lo hi none p2) pos) (tSl (rSlA K) ta tl tu) (wSl slT fa fl fh) := by
  obtain ⟨rfl, p, q⟩ := ha
  obtain ⟨_, pl, ql⟩ := hl
  obtain ⟨_, ph, qh⟩ := hh
  refine ⟨rfl, pe_slice sl_tupA p pl ph, fun B HB F Γ σ H Q Φ j w k => q B HB F Γ σ H _ _ j w fun v d F1 H1 g1 r φ => ?_⟩
  refine ql B HB F1 Γ σ H1 _ _ (j.grow g1) φ fun l F2 H2 g2 φ2 => ?_
  refine qh B HB F2 Γ σ H2 _ _ ((j.grow g1).grow g2) φ2 fun u F3 H3 g3 φ3 => ?_
  have g := (g1.trans g2).trans g3
  have r3 := (r.grow g2).grow g3
  cases d with
  | tup xs =>
    obtain ⟨b, us, rfl, ea, ra⟩ := r3.tup g.fh
    refine ⟨b, us, rfl, .of ea, fun e => ?_, fun _ => k_new g.fh (fun v z F' H' g' r' φ' => k v z F' H' (g.trans g') r' φ') (.tup (ra.cut l u)) φ3⟩
    have e2 : cutD xs l u = xs := by
      unfold cutD
      rw [ra.length] at e
      rw [e.1, e.2]
      simp
    rw [slT, e2] at φ3
    rcases r3 with r3 | ⟨_, _, _, _, _, r3⟩
    · exact k _ _ F3 H3 g r3 φ3
    · cases r3
  | _ => exact φ3.elim
end
end DL

set_option Elab.async false
set_option linter.all false
set_option maxRecDepth 100000
set_option maxHeartbeats 4000000
namespace DL
open PySem PySem.Spec PyProof.Rows L2

/-! ### comprehensions over a name's own list -/
structure WkB (K : Fr) (G F : Hp) (Jt : It) (ds : List D) : Prop where
  stop : ∀ i H, Same G H → ds.length ≤ i → Jt.stop i H
  go : ∀ i H, Same G H → i < ds.length → Jt.go i H
  yld : ∀ i F1 H x H', Same F F1 → Same F1 H → Same G H → i < ds.length → Jt.yld i H x H' → ∃ d F2, ds[i]? = some d ∧ Grow F1 H F2 H' ∧ Rep K F2 x d
def SIB (K : Fr) (t : TI) (f : WA) : Prop := ∀ (B HB F : Hp) (Γ : GE) (σ : L2.St) (H : Hp) (R : It → Hp → Prop) (Φ : List D → Prop), J K B HB F Γ σ H → f Γ Φ → (∀ Jt ds F' H', Grow F H F' H' → WkB K H' F' Jt ds → Φ ds → R Jt H') → t σ H R
structure DIB (K : Fr) (X : Cx) (tg it : Expr) (t : TI) (f : WA) : Prop where
  k : X.K = K
  p : PI X tg it t
  s : SIB K t f
theorem wkB_list {K : Fr} {G F : Hp} {a : Addr} {vs : List V} {ds : List D} (h : SqL K G a vs) (r : RepL K F vs ds) : WkB K G F (Itl K a) ds := by
  refine ⟨fun i H s hi => ⟨vs, s.seq h, by rw [r.length]; exact hi⟩, fun i H s hi => ?_, fun i F1 H x H' s1 s2 s3 hi y => ?_⟩
  · have hv : i < vs.length := by rw [r.length]; exact hi
    exact ⟨vs, vs[i], s.seq h, List.getElem?_eq_getElem hv⟩
  · obtain ⟨e, y⟩ := y
    subst e
    obtain ⟨d, e1, e2⟩ := r.getV (y vs (s3.seq h))
    exact ⟨d, F1, e1, .refl s2, e2.mono s1⟩
theorem dib_list {K : Fr} {X : Cx} {tg e : Expr} {t : TE} {f : WE} (he : DB K X e t f) : DIB K X tg e (iList K t) (wItL f) := by
  obtain ⟨rfl, p, q⟩ := he
  refine ⟨rfl, pi_list p, fun B HB F Γ σ H R Φ j w k => q B HB F Γ σ H _ _ j w fun v d F' H' g r φ => ?_⟩
  cases d with
  | lst ds =>
    obtain ⟨a, vs, rfl, e, rl⟩ := r.lst g.fh
    exact ⟨a, rfl, ⟨vs, .of e⟩, k _ ds F' H' g (wkB_list (.of e) rl) φ⟩
  | scr ns =>
    obtain ⟨a, rfl, e⟩ := r.scr g.fh
    exact ⟨a, rfl, ⟨_, e⟩, k _ _ F' H' g (wkB_list e (RepL.ofInts ns)) φ⟩
  | _ => exact φ.elim
section
variable {K : Fr} {X : Cx} {elt tg iter : Expr} {ifs : List Expr} {scope : Scope} {own : List (Str × Nat)} {pos : Pos} {wi : TI} {g : TG} {tt : TT} {te : TE} {fi : WA} {fg : WG} {ft : WT} {fe : WE} {S : List Nat}
theorem lcB_sound {K : Fr} {vs : List Nat} (hi : SIB K wi fi) (hg : SG K S g fg) (ht : STt K tt ft) (he : SE K te fe) (hS : ∀ i ∈ S, i ∈ vs) : SF K (tLc wi g tt te vs) (wLc fi fg ft fe vs) := by
  intro B HB F Γ σ H Q Φ j w k
  refine hi B HB F Γ σ H _ _ j w fun Jt ds F1 H1 g1 wk φ => ?_
  intro D nD
  have j1 := j.grow g1
  have jw := j1.wipe vs
  refine ⟨fun i m H2 => ∃ F2 us acc, m = ds.length - i ∧ i ≤ ds.length ∧ Grow F1 H1 F2 H2 ∧ F2 D = none ∧ H2 D = some (.lst us) ∧ RepL K F2 us acc ∧ lcGo fg ft fe (wipeG Γ vs) (ds.drop i) acc fun ys => Φ (.lst ys),
    ⟨ds.length, F1, [], [], rfl, Nat.zero_le _, .newH j1.fh nD, j1.fh.free nD, upd_same, .nil, φ⟩, ?_⟩
  rintro i m H2 ⟨F2, us, acc, rfl, hi2, g2, nF, eD, ra, w2⟩
  by_cases hlt : i < ds.length
  · have s12 : Same F1 F2 := g2.ff
    refine .inr ⟨wk.go i H2 g2.hh hlt, fun H' => ∃ F3 us' acc', Grow F1 H1 F3 H' ∧ F3 D = none ∧ H' D = some (.lst us') ∧ RepL K F3 us' acc' ∧ lcGo fg ft fe (wipeG Γ vs) (ds.drop (i + 1)) acc' fun ys => Φ (.lst ys),
      fun H' ⟨F3, us', acc', z⟩ => ⟨ds.length - (i + 1), by omega, F3, us', acc', rfl, hlt, z⟩, fun x H' y => ?_⟩
    obtain ⟨d, F3, ed, g3, r3⟩ := wk.yld i F2 H2 x H' s12 g2.fh g2.hh hlt y
    have edrop : ds.drop i = d :: ds.drop (i + 1) := by
      have := List.getElem?_eq_some_iff.mp ed
      obtain ⟨h1, h2⟩ := this
      rw [← h2]; exact List.drop_eq_getElem_cons h1
    rw [edrop] at w2
    have g13 := g2.trans g3
    have nF3 : F3 D = none := g3.ow D (by rw [eD]; simp) nF
    have eD3 : H' D = some (.lst us) := g3.hh _ _ eD
    refine hg B HB F3 (wipeG Γ vs) (wipe σ vs) H' x d _ _ (jw.grow g13) r3 w2 fun Γ4 σ4 j4 c4 w4 => ?_
    refine ⟨(c4 vs hS).trans (wipe_wipe σ vs), ?_⟩
    refine ht B HB F3 Γ4 σ4 H' _ _ j4 w4 fun b F5 H5 g5 w5 => ?_
    have nF5 : F5 D = none := g5.ow D (by rw [eD3]; simp) nF3
    have eD5 : H5 D = some (.lst us) := g5.hh _ _ eD3
    cases b with
    | false => exact ⟨F5, us, acc, g13.trans g5, nF5, eD5, (ra.mono g3.ff).mono g5.ff, w5⟩
    | true =>
      refine he B HB F5 Γ4 σ4 H5 _ _ (j4.grow g5) w5 fun v y F6 H6 g6 r6 w6 => ?_
      have nF6 : F6 D = none := g6.ow D (by rw [eD5]; simp) nF5
      have eD6 : H6 D = some (.lst us) := g6.hh _ _ eD5
      have ra6 := ((ra.mono g3.ff).mono g5.ff).mono g6.ff
      refine ⟨us, eD6, by rw [ra6.length]; exact w6.1, F6, _, _, ((g13.trans g5).trans g6).updNew nD nF6, nF6, upd_same, ra6.append (.cons r6 .nil), w6.2⟩
  · have e : i = ds.length := by omega
    subst e
    rw [List.drop_length] at w2
    refine .inl ⟨wk.stop _ H2 g2.hh (Nat.le_refl _), ?_⟩
    exact k D _ _ F2 H2 (g1.trans g2) nF (g1.hh.free nD) eD (.lst ra) w2
theorem df_lcB (hc : X.calm = true) (hN : X.N.Nodup) (hi : DIB K X tg iter wi fi) (ok : BlkOk X.N X.env.scope scope own)
    (hg : ∀ (s : Shared) (H : Hp) (C : Addr) (cl : List (Str × Addr)) (fp : List Addr), DG K (X.blk s H scope (compEnvC scope cl C X.env) fp) tg S g fg)
    (ht : ∀ (s : Shared) (H : Hp) (C : Addr) (cl : List (Str × Addr)) (fp : List Addr), DTs K (X.blk s H scope (compEnvC scope cl C X.env) fp) ifs tt ft)
    (he : ∀ (s : Shared) (H : Hp) (C : Addr) (cl : List (Str × Addr)) (fp : List Addr), DE K (X.blk s H scope (compEnvC scope cl C X.env) fp) elt te fe)
    (hS : ∀ i ∈ S, i ∈ own.map (·.2) := by decide) (hs : ∀ x, foldedSetIterable iter X.env x = pure x := by intro _; rfl) : DF K X (.ListComp elt [⟨tg, iter, ifs, 0⟩] scope pos) (tLc wi g tt te (own.map (·.2))) (wLc fi fg ft fe (own.map (·.2))) := by
  refine ⟨hi.k, pe_lc hc hN hi.p ok (fun s H C cl fp => (hg s H C cl fp).p) (fun s H C cl fp => (ht s H C cl fp).p) (fun s H C cl fp => (he s H C cl fp).p) hs, ?_⟩
  exact lcB_sound hi.s (hg ({} : Shared) (fun _ => none) 0 [] []).s (ht ({} : Shared) (fun _ => none) 0 [] []).s (he ({} : Shared) (fun _ => none) 0 [] []).s hS
end
section
variable {K : Fr} {X : Cx} {fr : Bool} {elt tg iter : Expr} {ifs : List Expr} {scope : Scope} {own : List (Str × Nat)} {pos : Pos} {wi : TI} {gt : TG} {tt : TT} {tel : TE} {fi : WA} {fg : WG} {ft : WT} {fel : WE} {S : List Nat}
theorem lcB_ps (i : Nat) {x : Str} {p' p2 : Pos} (hc : X.calm = true) (hN : X.N.Nodup) (hi : DIB K X tg iter wi fi) (ok : BlkOk X.N X.env.scope scope own)
    (hg : ∀ (s : Shared) (H : Hp) (C : Addr) (cl : List (Str × Addr)) (fp : List Addr), DG K (X.blk s H scope (compEnvC scope cl C X.env) fp) tg S gt fg)
    (ht : ∀ (s : Shared) (H : Hp) (C : Addr) (cl : List (Str × Addr)) (fp : List Addr), DTs K (X.blk s H scope (compEnvC scope cl C X.env) fp) ifs tt ft)
    (he : ∀ (s : Shared) (H : Hp) (C : Addr) (cl : List (Str × Addr)) (fp : List Addr), DE K (X.blk s H scope (compEnvC scope cl C X.env) fp) elt tel fel)
    (hy : X.N[i]? = some x) (hyl : X.env.scope.names.lookup x = some .local) (hk : X.env.scope.kind = .function) (hl : (p'.line == p2.line) = true)
    (hn : (scope.names.any fun (n, k) => n == x && (k == .local || k == .cell)) = false) (hs : ∀ y, foldedSetIterable iter X.env y = pure y) :
    PS X (.Assign [.Name x p'] (.ListComp elt [⟨tg, iter, ifs, 0⟩] scope p2) pos) (tAsg (tLc wi gt tt tel (own.map (·.2))) (gName i)) :=
  ps_setLc hc hN hy hyl (sw_true hk hyl hl hn) hi.p ok (fun s H C cl fp => (hg s H C cl fp).p) (fun s H C cl fp => (ht s H C cl fp).p) (fun s H C cl fp => (he s H C cl fp).p) hs
theorem ds_setLcB (i : Nat) {x : Str} {p' p2 : Pos} (hc : X.calm = true) (hN : X.N.Nodup) (hi : DIB K X tg iter wi fi) (ok : BlkOk X.N X.env.scope scope own)
    (hg : ∀ (s : Shared) (H : Hp) (C : Addr) (cl : List (Str × Addr)) (fp : List Addr), DG K (X.blk s H scope (compEnvC scope cl C X.env) fp) tg S gt fg)
    (ht : ∀ (s : Shared) (H : Hp) (C : Addr) (cl : List (Str × Addr)) (fp : List Addr), DTs K (X.blk s H scope (compEnvC scope cl C X.env) fp) ifs tt ft)
    (he : ∀ (s : Shared) (H : Hp) (C : Addr) (cl : List (Str × Addr)) (fp : List Addr), DE K (X.blk s H scope (compEnvC scope cl C X.env) fp) elt tel fel)
    (hy : X.N[i]? = some x := by rfl) (hyl : X.env.scope.names.lookup x = some .local := by rfl) (hk : X.env.scope.kind = .function := by rfl) (hl : (p'.line == p2.line) = true := by rfl)
    (hn : (scope.names.any fun (n, k) => n == x && (k == .local || k == .cell)) = false := by decide +kernel) (hS : ∀ i ∈ S, i ∈ own.map (·.2) := by decide) (hs : ∀ y, foldedSetIterable iter X.env y = pure y := by intro _; rfl) :
    DS fr K X (.Assign [.Name x p'] (.ListComp elt [⟨tg, iter, ifs, 0⟩] scope p2) pos) (tAsg (tLc wi gt tt tel (own.map (·.2))) (gName i)) (sSet i (wLc fi fg ft fel (own.map (·.2)))) :=
  ⟨hi.k, lcB_ps i hc hN hi ok hg ht he hy hyl hk hl hn hs, set_sound (DF.toE (X := X) ⟨hi.k, (df_lcB (pos := p2) hc hN hi ok hg ht he hS hs).p, (df_lcB (pos := p2) hc hN hi ok hg ht he hS hs).s⟩).s⟩
theorem ds_ownLcB (i : Nat) {x : Str} {p' p2 : Pos} (hc : X.calm = true) (hN : X.N.Nodup) (hi : DIB K X tg iter wi fi) (ok : BlkOk X.N X.env.scope scope own)
    (hg : ∀ (s : Shared) (H : Hp) (C : Addr) (cl : List (Str × Addr)) (fp : List Addr), DG K (X.blk s H scope (compEnvC scope cl C X.env) fp) tg S gt fg)
    (ht : ∀ (s : Shared) (H : Hp) (C : Addr) (cl : List (Str × Addr)) (fp : List Addr), DTs K (X.blk s H scope (compEnvC scope cl C X.env) fp) ifs tt ft)
    (he : ∀ (s : Shared) (H : Hp) (C : Addr) (cl : List (Str × Addr)) (fp : List Addr), DE K (X.blk s H scope (compEnvC scope cl C X.env) fp) elt tel fel)
    (hy : X.N[i]? = some x := by rfl) (hyl : X.env.scope.names.lookup x = some .local := by rfl) (hk : X.env.scope.kind = .function := by rfl) (hl : (p'.line == p2.line) = true := by rfl)
    (hn : (scope.names.any fun (n, k) => n == x && (k == .local || k == .cell)) = false := by decide +kernel) (hS : ∀ i ∈ S, i ∈ own.map (·.2) := by decide) (hs : ∀ y, foldedSetIterable iter X.env y = pure y := by intro _; rfl) :
    DS fr K X (.Assign [.Name x p'] (.ListComp elt [⟨tg, iter, ifs, 0⟩] scope p2) pos) (tAsg (tLc wi gt tt tel (own.map (·.2))) (gName i)) (sOwn i (wLc fi fg ft fel (own.map (·.2)))) :=
  ⟨hi.k, lcB_ps i hc hN hi ok hg ht he hy hyl hk hl hn hs, own_sound (df_lcB (pos := p2) hc hN hi ok hg ht he hS hs).s⟩
end
/-! ### an object set apart -/
def hide (D : Addr) (H : Hp) : Hp := fun x => if x = D then none else H x
theorem hide_self {D : Addr} {H : Hp} : hide D H D = none := by simp [hide]
theorem hide_ne {D b : Addr} {H : Hp} (h : b ≠ D) : hide D H b = H b := by simp [hide, h]
theorem _root_.L2.Same.hide {D : Addr} {F H : Hp} (s : Same F H) (n : F D = none) : Same F (DL.hide D H) := fun b u e => by
  rw [hide_ne (ne_of_none e n)]; exact s _ _ e
theorem _root_.L2.Same.unhide {D : Addr} {F H : Hp} (s : Same F (DL.hide D H)) : Same F H := fun b u e => by
  have := s _ _ e
  unfold DL.hide at this
  split at this
  · cases this
  · exact this
theorem Grow.hide {D : Addr} {F H F' H' : Hp} (g : Grow F H F' H') (n : F' D = none) : Grow F (DL.hide D H) F' (DL.hide D H') := by
  refine ⟨g.ff, fun b u e => ?_, g.fh.hide n, fun a h1 h2 => ?_⟩
  · by_cases hb : b = D
    · subst hb; rw [hide_self] at e; cases e
    · rw [hide_ne hb] at e ⊢; exact g.hh _ _ e
  · by_cases ha : a = D
    · subst ha; exact n
    · rw [hide_ne ha] at h1; exact g.ow a h1 h2
theorem Grow.unhide {D : Addr} {F H F' H' : Hp} (g : Grow F H F' (DL.hide D H')) : Grow F H F' H' := ⟨g.ff, g.hh.unhide, g.fh.unhide, g.ow⟩
theorem Grow.hideR {D : Addr} {F H F' H' : Hp} (g : Grow F H F' H') (nH : H D = none) (n : F' D = none) : Grow F H F' (DL.hide D H') := ⟨g.ff, g.hh.hide nH, g.fh.hide n, g.ow⟩
theorem J.show {K : Fr} {B HB F H : Hp} {Γ : GE} {σ : L2.St} {D : Addr} {o : HO} (j : J K B HB F Γ σ (DL.hide D H)) (e : H D = some o) (nF : F D = none) (nb : HB D = none) : J K B (upd HB D o) F Γ σ H := by
  refine ⟨⟨j.gr.ff, fun b u q => ?_, j.gr.fh.unhide, fun a h1 h2 => ?_⟩, j.len, fun i s q => ?_, j.ow⟩
  · by_cases hb : b = D
    · subst hb; rw [upd_same] at q; rw [e]; exact q
    · rw [upd_ne hb] at q; exact j.gr.hh.unhide _ _ q
  · by_cases ha : a = D
    · subst ha; exact nF
    · rw [upd_ne ha] at h1; exact j.gr.ow a h1 h2
  · have := j.sl i s q
    cases s with
    | val d => exact this
    | own d =>
      obtain ⟨a, o', ea, n1, n2, q2, r⟩ := this
      have ha : a ≠ D := by rintro rfl; rw [hide_self] at q2; cases q2
      rw [hide_ne ha] at q2
      exact ⟨a, o', ea, by rw [upd_ne ha]; exact n1, n2, q2, r⟩
theorem J.hideJ {K : Fr} {B HB F H : Hp} {Γ : GE} {σ : L2.St} {D : Addr} {o : HO} (j : J K B (upd HB D o) F Γ σ H) (nF : F D = none) (nb : HB D = none) : J K B HB F Γ σ (DL.hide D H) := by
  refine ⟨⟨j.gr.ff, fun b u q => ?_, j.gr.fh.hide nF, fun a h1 h2 => ?_⟩, j.len, fun i s q => ?_, j.ow⟩
  · have hb : b ≠ D := ne_of_none q nb
    rw [hide_ne hb]
    exact j.gr.hh b u (by rw [upd_ne hb]; exact q)
  · by_cases ha : a = D
    · subst ha; exact nF
    · exact j.gr.ow a (by rw [upd_ne ha]; exact h1) h2
  · have := j.sl i s q
    cases s with
    | val d => exact this
    | own d =>
      obtain ⟨a, o', ea, n1, n2, q2, r⟩ := this
      have ha : a ≠ D := by rintro rfl; rw [upd_same] at n1; cases n1
      exact ⟨a, o', ea, by rw [upd_ne ha] at n1; exact n1, n2, by rw [hide_ne ha]; exact q2, r⟩
/-! ### comprehensions with two sources -/
def lc2Go (g : WG) (tt : WT) (wi1 : WA) (g1 : WG) (tt1 : WT) (te : WE) (vs1 : List Nat) (Γ : GE) : List D → List D → (List D → Prop) → Prop
  | [], acc, Φ => Φ acc
  | d :: ds, acc, Φ => g d Γ fun Γ1 => tt Γ1 fun b => if b = true then wi1 Γ1 fun ds1 => lcGo g1 tt1 te (wipeG Γ1 vs1) ds1 acc fun acc' => lc2Go g tt wi1 g1 tt1 te vs1 Γ ds acc' Φ else lc2Go g tt wi1 g1 tt1 te vs1 Γ ds acc Φ
def wLc2 (wi : WA) (g : WG) (tt : WT) (wi1 : WA) (g1 : WG) (tt1 : WT) (te : WE) (vs vs1 : List Nat) : WE := fun Γ Φ => wi Γ fun ds => lc2Go g tt wi1 g1 tt1 te vs1 (wipeG Γ vs) ds [] fun ys => Φ (.lst ys)
section
variable {K : Fr} {X : Cx} {elt tg iter tg1 iter1 : Expr} {ifs ifs1 : List Expr} {scope : Scope} {own : List (Str × Nat)} {vs vs1 : List Nat} {pos : Pos} {wi wi1 : TI} {g g1 : TG} {tt tt1 : TT} {te : TE} {fi fi1 : WA} {fg fg1 : WG} {ft ft1 : WT} {fe : WE} {S S1 : List Nat}
theorem lc2_sound (hi : SI K wi fi) (hg : SG K S g fg) (ht : STt K tt ft) (hi1 : SI K wi1 fi1) (hg1 : SG K S1 g1 fg1) (ht1 : STt K tt1 ft1) (he : SE K te fe) (hS : ∀ i ∈ S, i ∈ vs) (hS1 : ∀ i ∈ S1, i ∈ vs1) :
    SF K (tLc2 wi g tt wi1 g1 tt1 te vs vs1) (wLc2 fi fg ft fi1 fg1 ft1 fe vs vs1) := by
  intro B HB F Γ σ H Q Φ j w k
  refine hi B HB F Γ σ H _ _ j w fun Jt ds F1 H1 g1' wk φ => ?_
  intro D nD
  have j1 := j.grow g1'
  have jw := j1.wipe vs
  refine ⟨fun i m H2 => ∃ F2 us acc, m = ds.length - i ∧ i ≤ ds.length ∧ Grow F1 H1 F2 H2 ∧ F2 D = none ∧ H2 D = some (.lst us) ∧ RepL K F2 us acc ∧ lc2Go fg ft fi1 fg1 ft1 fe vs1 (wipeG Γ vs) (ds.drop i) acc fun ys => Φ (.lst ys),
    ⟨ds.length, F1, [], [], rfl, Nat.zero_le _, .newH j1.fh nD, j1.fh.free nD, upd_same, .nil, φ⟩, ?_⟩
  rintro i m H2 ⟨F2, us, acc, rfl, hi2, g2, nF, eD, ra, w2⟩
  by_cases hlt : i < ds.length
  · have s12 : Same F1 F2 := g2.ff
    refine .inr ⟨wk.go i H2 (s12.trans g2.fh) hlt, fun H' => ∃ F3 us' acc', Grow F1 H1 F3 H' ∧ F3 D = none ∧ H' D = some (.lst us') ∧ RepL K F3 us' acc' ∧ lc2Go fg ft fi1 fg1 ft1 fe vs1 (wipeG Γ vs) (ds.drop (i + 1)) acc' fun ys => Φ (.lst ys),
      fun H' ⟨F3, us', acc', z⟩ => ⟨ds.length - (i + 1), by omega, F3, us', acc', rfl, hlt, z⟩, fun x H' y => ?_⟩
    obtain ⟨d, F3, ed, g3, r3⟩ := wk.yld i F2 H2 x H' s12 g2.fh hlt y
    have edrop : ds.drop i = d :: ds.drop (i + 1) := by
      have := List.getElem?_eq_some_iff.mp ed
      obtain ⟨h1, h2⟩ := this
      rw [← h2]; exact List.drop_eq_getElem_cons h1
    rw [edrop] at w2
    have g13 := g2.trans g3
    have nF3 : F3 D = none := g3.ow D (by rw [eD]; simp) nF
    have eD3 : H' D = some (.lst us) := g3.hh _ _ eD
    have nB : HB D = none := j1.gr.hh.free nD
    have jA : J K B (upd HB D (.lst us)) F3 (wipeG Γ vs) (wipe σ vs) H' := (jw.grow (g13.hideR nD nF3)).show eD3 nF3 nB
    refine hg B (upd HB D (.lst us)) F3 (wipeG Γ vs) (wipe σ vs) H' x d _ _ jA r3 w2 fun Γ4 σ4 j4 c4 w4 => ?_
    refine ⟨(c4 vs hS).trans (wipe_wipe σ vs), ?_⟩
    refine ht B (upd HB D (.lst us)) F3 Γ4 σ4 H' _ _ j4 w4 fun b F5 H5 g5 w5 => ?_
    have nF5 : F5 D = none := g5.ow D (by rw [eD3]; simp) nF3
    have eD5 : H5 D = some (.lst us) := g5.hh _ _ eD3
    cases b with
    | false => exact ⟨F5, us, acc, g13.trans g5, nF5, eD5, (ra.mono g3.ff).mono g5.ff, w5⟩
    | true =>
      have j5 := j4.grow g5
      refine hi1 B (upd HB D (.lst us)) F5 Γ4 σ4 H5 _ _ j5 w5 fun Jt1 ds1 F6 H6 g6 wk1 φ1 => ?_
      have nF6 : F6 D = none := g6.ow D (by rw [eD5]; simp) nF5
      have eD6 : H6 D = some (.lst us) := g6.hh _ _ eD5
      have ra6 := ((ra.mono g3.ff).mono g5.ff).mono g6.ff
      have g16 := (g13.trans g5).trans g6
      have j6 := (j5.grow g6).hideJ nF6 nB
      have jw1 := j6.wipe vs1
      refine ⟨fun jj k H7 => ∃ F7 us' acc', k = ds1.length - jj ∧ jj ≤ ds1.length ∧ Grow F6 (hide D H6) F7 (hide D H7) ∧ Grow F1 H1 F7 H7 ∧ F7 D = none ∧ H7 D = some (.lst us') ∧ RepL K F7 us' acc' ∧
          lcGo fg1 ft1 fe (wipeG Γ4 vs1) (ds1.drop jj) acc' (fun acc'' => lc2Go fg ft fi1 fg1 ft1 fe vs1 (wipeG Γ vs) (ds.drop (i + 1)) acc'' fun ys => Φ (.lst ys)),
        ⟨ds1.length, F6, us, acc, rfl, Nat.zero_le _, .refl (g6.fh.hide nF6), g16, nF6, eD6, ra6, φ1⟩, ?_⟩
      rintro jj k7 H7 ⟨F7, us7, acc7, rfl, hj2, g7, g17, nF7, eD7, ra7, w7⟩
      by_cases hlt1 : jj < ds1.length
      · have s67 : Same F6 F7 := g7.ff
        have f7 : Same F7 H7 := g7.fh.unhide
        refine .inr ⟨wk1.go jj H7 (s67.trans f7) hlt1, fun H' => ∃ F8 us' acc', Grow F6 (hide D H6) F8 (hide D H') ∧ Grow F1 H1 F8 H' ∧ F8 D = none ∧ H' D = some (.lst us') ∧ RepL K F8 us' acc' ∧
            lcGo fg1 ft1 fe (wipeG Γ4 vs1) (ds1.drop (jj + 1)) acc' (fun acc'' => lc2Go fg ft fi1 fg1 ft1 fe vs1 (wipeG Γ vs) (ds.drop (i + 1)) acc'' fun ys => Φ (.lst ys)),
          fun H' ⟨F8, us', acc', z⟩ => ⟨ds1.length - (jj + 1), by omega, F8, us', acc', rfl, hlt1, z⟩, fun x1 H8 y1 => ?_⟩
        obtain ⟨d1, F8, ed1, g8, r8⟩ := wk1.yld jj F7 H7 x1 H8 s67 f7 hlt1 y1
        have edrop1 : ds1.drop jj = d1 :: ds1.drop (jj + 1) := by
          obtain ⟨h1, h2⟩ := List.getElem?_eq_some_iff.mp ed1
          rw [← h2]; exact List.drop_eq_getElem_cons h1
        rw [edrop1] at w7
        have nF8 : F8 D = none := g8.ow D (by rw [eD7]; simp) nF7
        have eD8 : H8 D = some (.lst us7) := g8.hh _ _ eD7
        have g68 := g7.trans (g8.hide nF8)
        have jB : J K B (upd HB D (.lst us7)) F8 (wipeG Γ4 vs1) (wipe σ4 vs1) H8 := (jw1.grow g68).show eD8 nF8 nB
        refine hg1 B (upd HB D (.lst us7)) F8 (wipeG Γ4 vs1) (wipe σ4 vs1) H8 x1 d1 _ _ jB r8 w7 fun Γ9 σ9 j9 c9 w9 => ?_
        refine ⟨(c9 vs1 hS1).trans (wipe_wipe σ4 vs1), ?_⟩
        refine ht1 B (upd HB D (.lst us7)) F8 Γ9 σ9 H8 _ _ j9 w9 fun b1 F10 H10 g10 w10 => ?_
        have nF10 : F10 D = none := g10.ow D (by rw [eD8]; simp) nF8
        have eD10 : H10 D = some (.lst us7) := g10.hh _ _ eD8
        have ra10 := (ra7.mono g8.ff).mono g10.ff
        cases b1 with
        | false => exact ⟨F10, us7, acc7, g68.trans (g10.hide nF10), (g17.trans g8).trans g10, nF10, eD10, ra10, w10⟩
        | true =>
          refine he B (upd HB D (.lst us7)) F10 Γ9 σ9 H10 _ _ (j9.grow g10) w10 fun v y F11 H11 g11 r11 w11 => ?_
          have nF11 : F11 D = none := g11.ow D (by rw [eD10]; simp) nF10
          have eD11 : H11 D = some (.lst us7) := g11.hh _ _ eD10
          have ra11 := ra10.mono g11.ff
          have eh : hide D (upd H11 D (.lst (us7 ++ [v]))) = hide D H11 := by
            funext b; unfold DL.hide; split
            · rfl
            · rename_i hb; rw [upd_ne hb]
          refine ⟨us7, eD11, by rw [ra11.length]; exact w11.1, F11, us7 ++ [v], acc7 ++ [y], ?_, (((g17.trans g8).trans g10).trans g11).updNew nD nF11, nF11, upd_same, ra11.append (.cons r11 .nil), w11.2⟩
          rw [eh]
          exact (g68.trans (g10.hide nF10)).trans (g11.hide nF11)
      · have e : jj = ds1.length := by omega
        subst e
        rw [List.drop_length] at w7
        exact .inl ⟨wk1.stop _ H7 (g7.ff.trans g7.fh.unhide) (Nat.le_refl _), F7, us7, acc7, g17, nF7, eD7, ra7, w7⟩
  · have e : i = ds.length := by omega
    subst e
    rw [List.drop_length] at w2
    refine .inl ⟨wk.stop _ H2 (g2.ff.trans g2.fh) (Nat.le_refl _), ?_⟩
    exact k D _ _ F2 H2 (g1'.trans g2) nF (g1'.hh.free nD) eD (.lst ra) w2
theorem df_lc2 (hc : X.calm = true) (hN : X.N.Nodup) (hi : DI K X tg iter wi fi) (ok : BlkOk X.N X.env.scope scope own)
    (hg : ∀ (s : Shared) (H : Hp) (C : Addr) (cl : List (Str × Addr)) (fp : List Addr), DG K (X.blk s H scope (compEnvC scope cl C X.env) fp) tg S g fg)
    (ht : ∀ (s : Shared) (H : Hp) (C : Addr) (cl : List (Str × Addr)) (fp : List Addr), DTs K (X.blk s H scope (compEnvC scope cl C X.env) fp) ifs tt ft)
    (hi1 : ∀ (s : Shared) (H : Hp) (C : Addr) (cl : List (Str × Addr)) (fp : List Addr), DI K (X.blk s H scope (compEnvC scope cl C X.env) fp) tg1 iter1 wi1 fi1)
    (hg1 : ∀ (s : Shared) (H : Hp) (C : Addr) (cl : List (Str × Addr)) (fp : List Addr), DG K (X.blk s H scope (compEnvC scope cl C X.env) fp) tg1 S1 g1 fg1)
    (ht1 : ∀ (s : Shared) (H : Hp) (C : Addr) (cl : List (Str × Addr)) (fp : List Addr), DTs K (X.blk s H scope (compEnvC scope cl C X.env) fp) ifs1 tt1 ft1)
    (he : ∀ (s : Shared) (H : Hp) (C : Addr) (cl : List (Str × Addr)) (fp : List Addr), DE K (X.blk s H scope (compEnvC scope cl C X.env) fp) elt te fe)
    (vs1 : List Nat) (hv : ∀ i ∈ vs1, i ∈ own.map (·.2) := by decide) (hS : ∀ i ∈ S, i ∈ own.map (·.2) := by decide) (hS1 : ∀ i ∈ S1, i ∈ vs1 := by decide)
    (hs : ∀ x, foldedSetIterable iter X.env x = pure x := by intro _; rfl) (hs1 : ∀ env x, foldedSetIterable iter1 env x = pure x := by intro _ _; rfl) :
    DF K X (.ListComp elt [⟨tg, iter, ifs, 0⟩, ⟨tg1, iter1, ifs1, 0⟩] scope pos) (tLc2 wi g tt wi1 g1 tt1 te (own.map (·.2)) vs1) (wLc2 fi fg ft fi1 fg1 ft1 fe (own.map (·.2)) vs1) := by
  refine ⟨hi.k, pe_lc2 hc hN hi.p ok hv (fun s H C cl fp => (hg s H C cl fp).p) (fun s H C cl fp => (ht s H C cl fp).p) (fun s H C cl fp => (hi1 s H C cl fp).p) (fun s H C cl fp => (hg1 s H C cl fp).p) (fun s H C cl fp => (ht1 s H C cl fp).p) (fun s H C cl fp => (he s H C cl fp).p) hs hs1, ?_⟩
  exact lc2_sound hi.s (hg ({} : Shared) (fun _ => none) 0 [] []).s (ht ({} : Shared) (fun _ => none) 0 [] []).s (hi1 ({} : Shared) (fun _ => none) 0 [] []).s (hg1 ({} : Shared) (fun _ => none) 0 [] []).s (ht1 ({} : Shared) (fun _ => none) 0 [] []).s (he ({} : Shared) (fun _ => none) 0 [] []).s hS hS1
end
end DL

set_option Elab.async false
set_option linter.all false
set_option maxRecDepth 100000
set_option maxHeartbeats 4000000
namespace DL
open PySem PySem.Spec PyProof.Rows L2
/-! ### for over a list or a tuple -/
def iSeq (K : PySem.W.Frag) (tl : TE) : TI := fun σ H R => tl σ H fun x H1 => ∃ a, x = .ref a ∧ (((∃ xs, SqL K H1 a xs) ∧ R (Itl K a) H1) ∨ ((∃ xs, SqT K H1 a xs) ∧ R (Itt K a) H1))
theorem pi_seq {X : Cx} {tg l : Expr} {tl : TE} (hl : PE X l tl) : PI X tg l (iSeq X.K tl) := ⟨fun pins s σ H R I h => thn (hl.run pins s σ H _ I h) fun v t ⟨x, G, J, r, q⟩ => by
  obtain ⟨p, rfl, q⟩ := q
  cases r
  rcases q with ⟨⟨vs, hv⟩, q⟩ | ⟨⟨vs, hv⟩, q⟩
  · obtain ⟨us, ru, pl, _⟩ := J.list hv
    refine wpAny_pyIter_list pl.isList ⟨_, [t.heap.objs.size], _, _, G, rfl, J.kept (t' := t.toks) (fun b o z => Heap.get?_push_of_some _ z), turn_list p _, ⟨_, Heap.get?_push_size _ rfl, rfl, rfl⟩, fun b hb => ?_, q⟩
    rw [List.mem_singleton.mp hb]
    exact J.fpOk (Nat.le_refl _) (J.hok.fresh (Nat.le_refl _))
  · obtain ⟨us, ru, pl, _⟩ := J.tuple hv
    refine wpAny_pyIter_tuple (show t.heap.IsTuple p us.toArray from pl) ⟨_, [t.heap.objs.size], _, _, G, rfl, J.kept (t' := t.toks) (fun b o z => Heap.get?_push_of_some _ z), turn_tuple p _, ⟨_, Heap.get?_push_size _ rfl, rfl, rfl⟩, fun b hb => ?_, q⟩
    rw [List.mem_singleton.mp hb]
    exact J.fpOk (Nat.le_refl _) (J.hok.fresh (Nat.le_refl _))⟩
@[simp] def iterS : D → (List D → Prop) → Prop
  | .lst ds, Φ => Φ ds
  | .tup ds, Φ => Φ ds
  | .scr ns, Φ => Φ (ns.map .int)
  | _, _ => False
@[simp] def wItS (f : WE) : WA := fun Γ Φ => f Γ fun d => iterS d Φ
theorem di_seq {K : Fr} {X : Cx} {tg e : Expr} {t : TE} {f : WE} (he : DE K X e t f) : DI K X tg e (iSeq K t) (wItS f) := by
  obtain ⟨rfl, p, q⟩ := he
  refine ⟨rfl, pi_seq p, fun B HB F Γ σ H R Φ j w k => q B HB F Γ σ H _ _ j w fun v d F' H' g r φ => ?_⟩
  cases d with
  | lst ds =>
    obtain ⟨a, vs, rfl, e, rl⟩ := r.lst_inv
    exact ⟨a, rfl, .inl ⟨⟨vs, .of (g.fh _ _ e)⟩, k _ ds F' H' g (wk_list (.of e) rl) φ⟩⟩
  | scr ns =>
    obtain ⟨a, rfl, e⟩ := r.scr_inv
    exact ⟨a, rfl, .inl ⟨⟨_, g.fh.seq e⟩, k _ _ F' H' g (wk_list e (RepL.ofInts ns)) φ⟩⟩
  | tup ds =>
    obtain ⟨a, vs, rfl, e, rl⟩ := r.tup_inv
    exact ⟨a, rfl, .inr ⟨⟨vs, .of (g.fh _ _ e)⟩, k _ ds F' H' g (wk_tup (.of e) rl) φ⟩⟩
  | _ => exact φ.elim
/-! ### all, any, kept whole -/
def allB (bs : List Bool) : Bool := bs.all id
def anyB (bs : List Bool) : Bool := bs.any id
@[simp] def wAllB : WC := wBls allB
@[simp] def wAnyB : WC := wBls anyB
theorem d_allB {K : Fr} : DCall K (rAll K) wAllB := d_bls (g := fun bs => bs.all id)
theorem d_anyB {K : Fr} : DCall K (rAny K) wAnyB := d_bls (g := fun bs => bs.any id)
theorem allB_map {α : Type} (l : List α) (p : α → Bool) : allB (l.map p) = l.all p := by unfold allB; rw [List.all_map]; rfl
theorem anyB_map {α : Type} (l : List α) (p : α → Bool) : anyB (l.map p) = l.any p := by unfold anyB; rw [List.any_map]; rfl
end DL

set_option Elab.async false
set_option linter.all false
set_option maxRecDepth 100000
set_option maxHeartbeats 4000000
namespace DL
open PySem PySem.Spec PyProof.Rows L2

/-! ### loops over typed lists -/
theorem for_list' {α : Type} {g : WG} {f : WS} {κ : DK} (e : α → D) (I : Nat → GE → Prop) : ∀ (l : List α) (k : Nat) (Γ : GE), I k Γ →
    (∀ i a Γ (N : GE → Prop), l[i]? = some a → I (k + i) Γ → (∀ Γ', I (k + i + 1) Γ' → N Γ') → g (e a) Γ fun Γ1 => f Γ1 { κ with nx := N, ct := N, bk := κ.nx }) →
    (∀ Γ, I (k + l.length) Γ → κ.nx Γ) → forGo g f κ (l.map e) Γ
  | [], k, Γ, h0, hs, hd => hd Γ h0
  | a :: l, k, Γ, h0, hs, hd => by
    refine hs 0 a Γ _ rfl h0 fun Γ' h' => ?_
    refine for_list' e I l (k + 1) Γ' h' (fun i b Γ2 N e1 e2 e3 => ?_) (fun Γ2 h2 => hd Γ2 (by simpa [Nat.add_comm, Nat.add_left_comm, Nat.add_assoc] using h2))
    refine hs (i + 1) b Γ2 N (by simpa using e1) (by simpa [Nat.add_comm, Nat.add_left_comm, Nat.add_assoc] using e2) fun Γ3 h3 => e3 Γ3 (by simpa [Nat.add_comm, Nat.add_left_comm, Nat.add_assoc] using h3)
theorem for_list {α : Type} {g : WG} {f : WS} {κ : DK} (e : α → D) (I : Nat → GE → Prop) (l : List α) {Γ : GE} (h0 : I 0 Γ)
    (hs : ∀ i a Γ (N : GE → Prop), l[i]? = some a → I i Γ → (∀ Γ', I (i + 1) Γ' → N Γ') → g (e a) Γ fun Γ1 => f Γ1 { κ with nx := N, ct := N, bk := κ.nx }) (hd : ∀ Γ, I l.length Γ → κ.nx Γ) : forGo g f κ (l.map e) Γ :=
  for_list' e I l 0 Γ h0 (fun i a Γ N h1 h2 h3 => hs i a Γ N h1 (by simpa using h2) (by simpa using h3)) (by simpa using hd)
theorem for_rng {g : WG} {f : WS} {κ : DK} (lo : Int) (n : Nat) (I : Nat → GE → Prop) {Γ : GE} (h0 : I 0 Γ)
    (hs : ∀ i Γ (N : GE → Prop), i < n → I i Γ → (∀ Γ', I (i + 1) Γ' → N Γ') → g (.int (lo + i)) Γ fun Γ1 => f Γ1 { κ with nx := N, ct := N, bk := κ.nx }) (hd : ∀ Γ, I n Γ → κ.nx Γ) : forGo g f κ (rngD lo n) Γ := by
  refine for_list (fun (i : Nat) => D.int (lo + i)) I (List.range n) h0 (fun i a Γ N h1 h2 h3 => ?_) (by simpa using hd)
  have h1' : a = i ∧ i < n := by
    obtain ⟨hi, e⟩ := List.getElem?_eq_some_iff.mp h1
    simp at hi e
    exact ⟨e.symm, hi⟩
  obtain ⟨rfl, hi⟩ := h1'
  exact hs a Γ N hi h2 h3
/-- a turn of a comprehension -/
def elW (g : WG) (tt : WT) (te : WE) (Γ : GE) (d : D) (Ψ : Option D → Prop) : Prop := g d Γ fun Γ1 => tt Γ1 fun b => if b = true then te Γ1 fun y => Ψ (some y) else Ψ none
theorem lc_filterMap {α : Type} {g : WG} {tt : WT} {te : WE} {Γ : GE} {Φ : List D → Prop} (e : α → D) (f : α → Option D) : ∀ (l : List α) (acc : List D), (∀ a ∈ l, ∀ Ψ, Ψ (f a) → elW g tt te Γ (e a) Ψ) → acc.length + l.length ≤ sizeLine →
    Φ (acc ++ l.filterMap f) → lcGo g tt te Γ (l.map e) acc Φ
  | [], acc, _, _, h => by
    show Φ acc
    simpa using h
  | a :: l, acc, hs, hl, h => by
    refine hs a (by simp) (fun o => match o with | some y => acc.length < sizeLine ∧ lcGo g tt te Γ (l.map e) (acc ++ [y]) Φ | none => lcGo g tt te Γ (l.map e) acc Φ) ?_
    rw [List.length_cons] at hl
    cases q : f a with
    | none =>
      refine lc_filterMap e f l acc (fun b hb => hs b (by simp [hb])) (by omega) ?_
      simpa [q] using h
    | some y =>
      refine ⟨by omega, lc_filterMap e f l (acc ++ [y]) (fun b hb => hs b (by simp [hb])) (by simp; omega) ?_⟩
      simpa [q] using h
theorem lc_map {α : Type} {g : WG} {tt : WT} {te : WE} {Γ : GE} {Φ : List D → Prop} (e : α → D) (f : α → D) (l : List α) (hs : ∀ a ∈ l, ∀ Ψ, Ψ (some (f a)) → elW g tt te Γ (e a) Ψ) (hl : l.length ≤ sizeLine)
    (h : Φ (l.map f)) : lcGo g tt te Γ (l.map e) [] Φ := by
  refine lc_filterMap e (fun a => some (f a)) l [] hs (by simpa using hl) ?_
  rw [List.filterMap_eq_map']
  exact h
theorem lc_filter {α : Type} {g : WG} {tt : WT} {te : WE} {Γ : GE} {Φ : List D → Prop} (e : α → D) (p : α → Bool) (f : α → D) (l : List α) (hs : ∀ a ∈ l, ∀ Ψ, Ψ (if p a = true then some (f a) else none) → elW g tt te Γ (e a) Ψ) (hl : l.length ≤ sizeLine)
    (h : Φ ((l.filter p).map f)) : lcGo g tt te Γ (l.map e) [] Φ := by
  refine lc_filterMap e (fun a => if p a = true then some (f a) else none) l [] hs (by simpa using hl) ?_
  have : l.filterMap (fun a => if p a = true then some (f a) else none) = (l.filter p).map f := by
    clear hs hl h
    induction l with
    | nil => rfl
    | cons a r ih => by_cases q : p a = true <;> simp [q, ih]
  rw [this]
  exact h
theorem while_inv {c : WT} {f : WS} {κ : DK} (I : GE → Prop) (μ : GE → Nat) {Γ : GE} (h0 : I Γ)
    (hs : ∀ Γ (N : GE → Prop), I Γ → (∀ Γ', I Γ' → μ Γ' < μ Γ → N Γ') → c Γ fun b => if b = true then f Γ { κ with nx := N, ct := N, bk := κ.nx } else κ.nx Γ) : sWhile c f Γ κ := by
  have key : ∀ m Γ, I Γ → μ Γ ≤ m → whGo c f κ (m + 1) Γ := by
    intro m
    induction m with
    | zero => exact fun Γ h hm => hs Γ (whGo c f κ 0) h fun Γ' h' hl => by omega
    | succ m ih => exact fun Γ h hm => hs Γ (whGo c f κ (m + 1)) h fun Γ' h' hl => ih Γ' h' (by omega)
  exact ⟨_, key _ Γ h0 (Nat.le_refl _)⟩

/-- one statement, then the next: the names behind it are read off -/
theorem sq {f g : WS} {Γ : GE} {κ : DK} (Γ' : GE) (h1 : ∀ N : GE → Prop, N Γ' → f Γ { κ with nx := N }) (h2 : g Γ' κ) : sSeq f g Γ κ := h1 _ h2
theorem atI_ints {l : List Int} {i : Nat} (h : i < l.length) : atI (l.map D.int) (i : Int) = some (.int (l.getD i 0)) := by
  refine atI_nat ?_
  simp [List.getD, h]
theorem getD_mem {l : List Int} {i : Nat} {P : Int → Prop} (h : ∀ x ∈ l, P x) (hi : i < l.length) : P (l.getD i 0) := by
  have e : l.getD i 0 = l[i] := by simp [List.getD, hi]
  rw [e]; exact h _ (List.getElem_mem hi)

/-! ### equality -/
@[simp] theorem deq_int (i j : Int) : deq (.int i) (.int j) = decide (i = j) := by simp only [deq, py, PyData.eqv]; exact Bool.beq_eq_decide_eq i j
@[simp] theorem deq_bl (i j : Bool) : deq (.bl i) (.bl j) = decide (i = j) := by simp only [deq, py, PyData.eqv]; exact Bool.beq_eq_decide_eq i j
@[simp] theorem deq_str (i j : Str) : deq (.str i) (.str j) = decide (i = j) := by simp only [deq, py, PyData.eqv]; exact Bool.beq_eq_decide_eq i j
@[simp] theorem deq_non : deq .non .non = true := by simp only [deq, py, PyData.eqv]
@[simp] theorem deq_int_non (i : Int) : deq (.int i) .non = false := by simp only [deq, py, PyData.eqv]
@[simp] theorem deq_non_int (i : Int) : deq .non (.int i) = false := by simp only [deq, py, PyData.eqv]
def deqL (xs ys : List D) : Bool := PyData.eqvAll (pys xs) (pys ys)
@[simp] theorem deq_lst (xs ys : List D) : deq (.lst xs) (.lst ys) = deqL xs ys := by simp only [deq, deqL, py, PyData.eqv]
@[simp] theorem deq_tup (xs ys : List D) : deq (.tup xs) (.tup ys) = deqL xs ys := by simp only [deq, deqL, py, PyData.eqv]
@[simp] theorem deqL_nil : deqL [] [] = true := by simp only [deqL, pys, PyData.eqvAll]
@[simp] theorem deqL_nc (y : D) (ys : List D) : deqL [] (y :: ys) = false := by simp only [deqL, pys, PyData.eqvAll]
@[simp] theorem deqL_cn (x : D) (xs : List D) : deqL (x :: xs) [] = false := by simp only [deqL, pys, PyData.eqvAll]
@[simp] theorem deqL_cons (x y : D) (xs ys : List D) : deqL (x :: xs) (y :: ys) = (deq x y && deqL xs ys) := by simp only [deqL, deq, pys, PyData.eqvAll]
/-- == of lists whose items it tells apart -/
theorem deqL_map {α : Type} [DecidableEq α] {e : α → D} (h : ∀ a b, deq (e a) (e b) = decide (a = b)) : ∀ (l m : List α), deqL (l.map e) (m.map e) = decide (l = m)
  | [], [] => by simp
  | [], _ :: _ => by simp
  | _ :: _, [] => by simp
  | a :: l, b :: m => by
    rw [List.map_cons, List.map_cons, deqL_cons, h, deqL_map h l m]
    simp [Bool.decide_and]
@[simp] theorem deqL_ints (l m : List Int) : deqL (l.map .int) (m.map .int) = decide (l = m) := deqL_map deq_int l m
@[simp] theorem shp_ints (n : Nat) (l : List Int) : shp (n + 1) (.lst (l.map .int)) = true := by simp [shp]
/-- two equal data -/
theorem deq_refl {d : D} (h : shp 9 d = true) : deq d d = true := SeqAt.eqv_refl _ (SeqAt.canLay_of_shaped (shp_shaped h))

/-! ### the draws of a law -/
def law_cellN (ns : List Int) (k : Nat) : Int := (ns[k]?).getD 0
def sp_law_cell : List D → D → Prop := fun ds d => ∃ (ns : List Int) (k : Nat), ds = [.scr ns, .int k] ∧ d = .int (law_cellN ns k)
theorem sp_law_cell_len : ∀ (ds : List D) (d : D), sp_law_cell ds d → ds.length = 2 := by
  rintro _ _ ⟨ns, k, rfl, _⟩; rfl
def sem_law_cell : WS :=
  (sSeq (sIf (wTest (w2 wLt (wVar 1) (wCall wLen (wCons (wVar 0) wNil))))
  (sRet (wCall wInt (wCons (w2 wIx (wVar 0) (wVar 1)) wNil)))
  sNext)
  (sRet (wC (.int 0))))
theorem hf_law_cell : ∀ (ds : List D) (d : D), sp_law_cell ds d → sem_law_cell (startG 2 ds) { nx := fun _ => false = false ∧ d = .non, rt := fun z => z = d } := by
  rintro _ _ ⟨ns, k, rfl, rfl⟩
  simp [sem_law_cell, startG, law_cellN]
  by_cases h : k < ns.length
  · exact .inr ⟨h, atI_nat (by simp [h])⟩
  · refine .inl ⟨by omega, ?_⟩
    rw [List.getElem?_eq_none (by omega)]; rfl
/-- the digits of a great cell -/
def bigL (limit : Int) : Nat → Int → List Int
  | 0, _ => []
  | n + 1, c => c % limit :: bigL limit n (c / limit)
def mix1 (cell : Int) (k : Nat) : Int := (cell * 48271 + k * 69621 + 7) % 2147483647
def mix2 (m : Int) (k : Nat) : Int := (m * m + m * 40692 + k * 16807 + 11) % 2147483399
def mixN (cell limit : Int) (k : Nat) : Int := (mix2 (mix1 cell k) k / 32) % limit
def numsL (cell : Int) (n : Nat) (limit : Int) : List Int := if 10 ^ 18 ≤ cell then bigL limit n cell else (List.range n).map (mixN cell limit)
theorem bigL_len (l : Int) : ∀ n c, (bigL l n c).length = n
  | 0, _ => rfl
  | n + 1, c => by simp [bigL, bigL_len l n]
theorem numsL_len (cell limit : Int) (n : Nat) : (numsL cell n limit).length = n := by
  unfold numsL; split
  · exact bigL_len _ _ _
  · simp
theorem bigL_mem {l : Int} (h : 0 < l) : ∀ n c, ∀ x ∈ bigL l n c, 0 ≤ x ∧ x < l
  | 0, _, x, hx => by simp [bigL] at hx
  | n + 1, c, x, hx => by
    rcases List.mem_cons.mp hx with rfl | hx
    · exact ⟨Int.emod_nonneg _ (by omega), Int.emod_lt_of_pos _ h⟩
    · exact bigL_mem h n _ x hx
theorem numsL_mem {l : Int} (h : 0 < l) (n : Nat) (c : Int) : ∀ x ∈ numsL c n l, 0 ≤ x ∧ x < l := by
  unfold numsL; split
  · exact bigL_mem h n c
  · intro x hx
    obtain ⟨k, _, rfl⟩ := List.mem_map.mp hx
    exact ⟨Int.emod_nonneg _ (by omega), Int.emod_lt_of_pos _ h⟩
def sp_law_numbers : List D → D → Prop := fun ds d => ∃ (cell limit : Int) (n : Nat), n ≤ 1000000 ∧ 0 < limit ∧ limit < 2 ^ 250 ∧ ds = [.int cell, .int n, .int limit] ∧ d = .lst ((numsL cell n limit).map .int)
theorem sp_law_numbers_len : ∀ (ds : List D) (d : D), sp_law_numbers ds d → ds.length = 3 := by
  rintro _ _ ⟨_, _, _, _, _, _, rfl, _⟩; rfl
def sem_law_numbers : WS :=
  (sSeq (sOwn 3 (wLst wNil))
  (sSeq (sIf (wTest (w2 wGe (wVar 0) (w2 wPow (wC (.int 10)) (wC (.int 18)))))
  (sSeq (sFor (wItR1 (wCons (wVar 1) wNil)) (gSet 4)
  (sSeq (sApp 3 (w2 wMod (wCall wInt (wCons (wVar 0) wNil)) (wVar 2)))
  (sSet 0 (w2 wDiv (wCall wInt (wCons (wVar 0) wNil)) (wVar 2)))))
  (sRetV 3))
  sNext)
  (sSeq (sFor (wItR1 (wCons (wVar 1) wNil)) (gSet 4)
  (sSeq (sSet 5 (w2 wMod (wCall wInt (wCons (w2 wAdd (w2 wAdd (w2 wMul (wVar 0) (wC (.int 48271))) (w2 wMul (wVar 4) (wC (.int 69621)))) (wC (.int 7))) wNil)) (wC (.int 2147483647))))
  (sSeq (sSet 5 (w2 wMod (wCall wInt (wCons (w2 wAdd (w2 wAdd (w2 wAdd (w2 wMul (wVar 5) (wVar 5)) (w2 wMul (wVar 5) (wC (.int 40692)))) (w2 wMul (wVar 4) (wC (.int 16807)))) (wC (.int 11))) wNil)) (wC (.int 2147483399))))
  (sApp 3 (w2 wMod (wCall wInt (wCons (w2 wDiv (wVar 5) (wC (.int 32))) wNil)) (wVar 2))))))
  (sRetV 3))))
theorem line_le {n : Nat} (h : n ≤ 1000000) : n < sizeLine := by rw [sizeLine_eq]; omega
theorem hf_law_numbers : ∀ (ds : List D) (d : D), sp_law_numbers ds d → sem_law_numbers (startG 6 ds) { nx := fun _ => false = false ∧ d = .non, rt := fun z => z = d } := by
  rintro _ _ ⟨cell, limit, n, hn, hl, hl2, rfl, rfl⟩
  simp [sem_law_numbers, startG, CPow, List.replicate]
  by_cases hc : 10 ^ 18 ≤ cell
  · refine .inr ⟨by omega, by omega, for_rng 0 n (fun i Γ => ∃ (c : Int) (l : List Int) (x : Option Sl), Γ = [some (.val (.int c)), some (.val (.int n)), some (.val (.int limit)), some (.own (.lst (l.map .int))), x, none] ∧ l.length = i ∧ l ++ bigL limit (n - i) c = bigL limit n cell)
      ⟨cell, [], none, rfl, rfl, rfl⟩ ?_ ?_⟩
    · rintro i Γ N hi ⟨c, l, x, rfl, hlen, he⟩ hN
      have := line_le hn
      simp [divOk, hl, hl2]
      refine ⟨by omega, by omega, hN _ ⟨c / limit, l ++ [c % limit], some (.val (.int i)), by simp, by simp [hlen], ?_⟩⟩
      have e : n - i = (n - (i + 1)) + 1 := by omega
      rw [e] at he
      rw [← he]
      simp [bigL]
    · rintro Γ ⟨c, l, x, rfl, hlen, he⟩
      have hc' : (1000000000000000000 : Int) ≤ cell := by omega
      simp [numsL, hc']
      have : l = bigL limit n cell := by rw [← he]; simp [bigL]
      rw [this]
  · refine .inl ⟨by omega, by omega, for_rng 0 n (fun i Γ => ∃ (x y : Option Sl), Γ = [some (.val (.int cell)), some (.val (.int n)), some (.val (.int limit)), some (.own (.lst (((List.range i).map (mixN cell limit)).map .int))), x, y])
      ⟨none, none, rfl⟩ ?_ ?_⟩
    · rintro i Γ N hi ⟨x, y, rfl⟩ hN
      have := line_le hn
      have h1 : 0 ≤ mix1 cell i ∧ mix1 cell i < 2147483647 := ⟨Int.emod_nonneg _ (by omega), Int.emod_lt_of_pos _ (by omega)⟩
      unfold mix1 at h1
      simp [divOk, hl, hl2, mulOk, CMul]
      refine ⟨.inl (by omega), by omega, hN _ ⟨some (.val (.int i)), some (.val (.int (mix2 (mix1 cell i) i))), ?_⟩⟩
      simp [List.range_succ, mixN, mix1, mix2]
    · rintro Γ ⟨x, y, rfl⟩
      have hc' : ¬ (1000000000000000000 : Int) ≤ cell := by omega
      simp [numsL, hc']
def drawsL (ns : List Int) (k n : Nat) : List Int := numsL (law_cellN ns k + 101 * k) n 5040
def sp_law_draws : List D → D → Prop := fun ds d => ∃ (ns : List Int) (k n : Nat), n ≤ 1000000 ∧ ds = [.scr ns, .int k, .int n] ∧ d = .lst ((drawsL ns k n).map .int)
theorem sp_law_draws_len : ∀ (ds : List D) (d : D), sp_law_draws ds d → ds.length = 3 := by
  rintro _ _ ⟨_, _, _, _, rfl, _⟩; rfl
def sem_law_draws : WS :=
  (sRet (wFn sp_law_numbers (wCons (w2 wAdd (wFn sp_law_cell (wCons (wVar 0) (wCons (wVar 1) wNil))) (w2 wMul (wC (.int 101)) (wVar 1))) (wCons (wVar 2) (wCons (wC (.int 5040)) wNil)))))
theorem hf_law_draws : ∀ (ds : List D) (d : D), sp_law_draws ds d → sem_law_draws (startG 3 ds) { nx := fun _ => false = false ∧ d = .non, rt := fun z => z = d } := by
  rintro _ _ ⟨ns, k, n, hn, rfl, rfl⟩
  simp [sem_law_draws, startG, List.replicate]
  refine ⟨.int (law_cellN ns k), ⟨ns, k, rfl, rfl⟩, ?_⟩
  simp [mulOk, CMul]
  exact ⟨_, 5040, n, hn, by omega, by omega, rfl, rfl⟩
theorem drawsL_len (ns : List Int) (k n : Nat) : (drawsL ns k n).length = n := numsL_len _ _ _
theorem drawsL_mem (ns : List Int) (k n : Nat) : ∀ x ∈ drawsL ns k n, 0 ≤ x ∧ x < 5040 := numsL_mem (by omega) _ _
/-! ### _law_same, of two equal data -/
/-- data of at most n levels, lists of at most a million items, no dicts -/
def sm : Nat → D → Bool
  | _, .non => true | _, .bl _ => true | _, .int _ => true | _, .str x => PyData.strOk x
  | n + 1, .lst xs => decide (xs.length ≤ 1000000) && xs.all (sm n) | n + 1, .tup xs => decide (xs.length ≤ 1000000) && xs.all (sm n)
  | _, _ => false
@[simp] theorem sm_int (n : Nat) (i : Int) : sm n (.int i) = true := by cases n <;> rfl
@[simp] theorem sm_bl (n : Nat) (i : Bool) : sm n (.bl i) = true := by cases n <;> rfl
@[simp] theorem sm_non (n : Nat) : sm n .non = true := by cases n <;> rfl
@[simp] theorem sm_str (n : Nat) (x : Str) : sm n (.str x) = PyData.strOk x := by cases n <;> rfl
@[simp] theorem sm_lst (n : Nat) (xs : List D) : sm (n + 1) (.lst xs) = (decide (xs.length ≤ 1000000) && xs.all (sm n)) := rfl
@[simp] theorem sm_tup (n : Nat) (xs : List D) : sm (n + 1) (.tup xs) = (decide (xs.length ≤ 1000000) && xs.all (sm n)) := rfl
def sp_law_same_n (n : Nat) : List D → D → Prop := fun ds r => ∃ d, sm n d = true ∧ ds = [d, d] ∧ r = .bl true
abbrev sp_law_same : List D → D → Prop := sp_law_same_n 8
theorem sp_law_same_len {n : Nat} : ∀ (ds : List D) (d : D), sp_law_same_n n ds d → ds.length = 2 := by
  rintro _ _ ⟨_, _, rfl, _⟩; rfl
def sem_law_same (sp : List D → D → Prop) : WS :=
  (sSeq (sIf (wTru (w1 (wIsi "list") (wVar 1)))
  (sIf (wOr (wNot (wTru (w1 (wIsi "list") (wVar 0)))) (wTest (w2 wNe (wCall wLen (wCons (wVar 0) wNil)) (wCall wLen (wCons (wVar 1) wNil)))))
  (sRet (wC (.bl false)))
  sNext)
  (sIf (wTru (w1 (wIsi "tuple") (wVar 1)))
  (sIf (wOr (wNot (wTru (w1 (wIsi "tuple") (wVar 0)))) (wTest (w2 wNe (wCall wLen (wCons (wVar 0) wNil)) (wCall wLen (wCons (wVar 1) wNil)))))
  (sRet (wC (.bl false)))
  sNext)
  (sIf (wTest (w1 (wIsN false) (wVar 1)))
  (sRet (w1 (wIsN false) (wVar 0)))
  (sIf (wTru (w1 (wIsi "bool") (wVar 1)))
  (sRet (wAndV (w1 (wIsi "bool") (wVar 0)) (w2 wEq (wVar 0) (wVar 1))))
  (sIf (wTru (w1 (wIsi "int") (wVar 1)))
  (sRet (wAndV (w1 (wIsi "int") (wVar 0)) (wAndV (wNotT (w1 (wIsi "bool") (wVar 0))) (w2 wEq (wVar 0) (wVar 1)))))
  (sRet (wAndV (w1 (wIsi "str") (wVar 0)) (w2 wEq (wVar 0) (wVar 1)))))))))
  (sSeq (sFor (wItR1 (wCons (wCall wLen (wCons (wVar 1) wNil)) wNil)) (gSet 2)
  (sIf (wNot (wTru (wFn sp (wCons (w2 wIx (wVar 0) (wVar 2)) (wCons (w2 wIx (wVar 1) (wVar 2)) wNil)))))
  (sRet (wC (.bl false)))
  sNext))
  (sRet (wC (.bl true)))))
@[simp] theorem shp_int (n : Nat) (i : Int) : shp n (.int i) = true := by cases n <;> rfl
@[simp] theorem shp_bl (n : Nat) (i : Bool) : shp n (.bl i) = true := by cases n <;> rfl
@[simp] theorem shp_non (n : Nat) : shp n .non = true := by cases n <;> rfl
@[simp] theorem shp_str (n : Nat) (x : Str) : shp n (.str x) = PyData.strOk x := by cases n <;> rfl
@[simp] theorem shp_lst (n : Nat) (xs : List D) : shp (n + 1) (.lst xs) = xs.all (shp n) := rfl
@[simp] theorem shp_tup (n : Nat) (xs : List D) : shp (n + 1) (.tup xs) = xs.all (shp n) := rfl
theorem same_loop {sp : List D → D → Prop} {xs : List D} {t : D} (hx : ∀ x ∈ xs, sp [x, x] (.bl true)) (ht : t = .lst xs ∨ t = .tup xs) (hl : xs.length < 2 ^ 62) {Γ : GE} (h : Γ = [some (.val t), some (.val t), none]) {κ : DK} (hn : ∀ x, κ.nx [some (.val t), some (.val t), x]) :
    forGo (gSet 2) (sIf (wNot (wTru (wFn sp (wCons (w2 wIx (wVar 0) (wVar 2)) (wCons (w2 wIx (wVar 1) (wVar 2)) wNil))))) (sRet (wC (.bl false))) sNext) κ (rngD 0 xs.length) Γ := by
  subst h
  refine for_rng 0 xs.length (fun i Γ => ∃ x : Option Sl, Γ = [some (.val t), some (.val t), x]) ⟨none, rfl⟩ ?_ ?_
  · rintro i Γ N hi ⟨x, rfl⟩ hN
    have ha : atI xs (i : Int) = some xs[i] := atI_nat (List.getElem?_eq_getElem hi)
    have hs := hx xs[i] (List.getElem_mem hi)
    rcases ht with rfl | rfl <;> (simp [ha]; exact ⟨.bl true, hs, hN _ ⟨_, rfl⟩⟩)
  · rintro Γ ⟨x, rfl⟩
    exact hn x
theorem hf_law_same : ∀ (n : Nat) (ds : List D) (d : D), sp_law_same_n n ds d → sem_law_same (match n with | 0 => fun _ _ => False | n + 1 => sp_law_same_n n) (startG 3 ds) { nx := fun _ => false = false ∧ d = .non, rt := fun z => z = d } := by
  rintro n _ _ ⟨d, hd, rfl, rfl⟩
  cases d with
  | lst xs =>
    cases n with
    | zero => simp [sm] at hd
    | succ n =>
      simp at hd
      simp [sem_law_same, startG, List.replicate]
      refine ⟨by omega, same_loop (fun x hx => ⟨x, hd.2 x hx, rfl, rfl⟩) (.inl rfl) (by omega) rfl fun x => by simp⟩
  | tup xs =>
    cases n with
    | zero => simp [sm] at hd
    | succ n =>
      simp at hd
      simp [sem_law_same, startG, List.replicate]
      refine ⟨by omega, same_loop (fun x hx => ⟨x, hd.2 x hx, rfl, rfl⟩) (.inr rfl) (by omega) rfl fun x => by simp⟩
  | scr xs => cases n <;> simp [sm] at hd
  | dK xs => cases n <;> simp [sm] at hd
  | dT xs => cases n <;> simp [sm] at hd
  | str x => simp at hd; simp [sem_law_same, startG, List.replicate, hd]
  | _ => simp [sem_law_same, startG, List.replicate]
end DL

set_option Elab.async false
set_option linter.all false
set_option maxRecDepth 100000
set_option maxHeartbeats 4000000
namespace DL
open PySem PySem.Spec PyProof.Rows L2
/-! ### more of lists -/
theorem cutI_nat {α : Type} (f : α → D) (l : List α) (a b : Nat) : cutD (l.map f) (some (a : Int)) (some (b : Int)) = ((l.drop a).take (b - a)).map f := by
  unfold cutD
  rw [HT.sIx_nat, HT.sIx_nat, List.length_map]
  apply List.ext_getElem?
  intro i
  simp only [List.getElem?_take, List.getElem?_drop, List.getElem?_map]
  by_cases h1 : a + i < l.length
  · rw [Nat.min_eq_left (show a ≤ l.length by omega)]
    by_cases h2 : i < b - a
    · rw [if_pos h2, if_pos (by omega)]
    · rw [if_neg h2, if_neg (by omega)]; rfl
  · have e1 : l[a + i]? = none := List.getElem?_eq_none (by omega)
    have e2 : l[min a l.length + i]? = none ∨ ¬ i < min b l.length - min a l.length := by
      by_cases h3 : a ≤ l.length
      · left; rw [Nat.min_eq_left h3]; exact e1
      · right; omega
    rcases e2 with e2 | e2
    · rw [e1, e2]; simp
    · rw [if_neg e2, e1]; simp
theorem cutI_tail {α : Type} (f : α → D) (l : List α) (a : Nat) : cutD (l.map f) (some (a : Int)) none = (l.drop a).map f := by
  unfold cutD
  rw [HT.sIx_nat, List.length_map]
  apply List.ext_getElem?
  intro i
  simp only [HT.sIx, List.getElem?_take, List.getElem?_drop, List.getElem?_map]
  by_cases h1 : a + i < l.length
  · rw [Nat.min_eq_left (show a ≤ l.length by omega), if_pos (by omega)]
  · rw [List.getElem?_eq_none (show l.length ≤ a + i by omega)]
    split
    · rw [List.getElem?_eq_none (show l.length ≤ min a l.length + i by omega)]
    · rfl
theorem cutI_head {α : Type} (f : α → D) (l : List α) (b : Nat) : cutD (l.map f) none (some (b : Int)) = (l.take b).map f := by
  have := cutI_nat f l 0 b
  have e : cutD (l.map f) none (some (b : Int)) = cutD (l.map f) (some ((0 : Nat) : Int)) (some (b : Int)) := by
    unfold cutD; rw [HT.sIx_nat]; simp [HT.sIx]
  rw [e, this]; simp
theorem atI_rng {α : Type} {f : Nat → α} {n i : Nat} (h : i < n) : atI ((List.range n).map f) (i : Int) = some (f i) := atI_nat (by simp [h])
theorem lc_rng {g : WG} {tt : WT} {te : WE} {Γ : GE} {Φ : List D → Prop} (f : Nat → D) {n : Nat} {lo : Int} (hs : ∀ k < n, ∀ Ψ, Ψ (some (f k)) → elW g tt te Γ (.int (lo + k)) Ψ) (hl : n ≤ sizeLine) (h : Φ ((List.range n).map f)) : lcGo g tt te Γ (rngD lo n) [] Φ :=
  lc_map (fun (i : Nat) => D.int (lo + i)) f (List.range n) (fun k hk => hs k (List.mem_range.mp hk)) (by simpa using hl) h
theorem lc_rngF {g : WG} {tt : WT} {te : WE} {Γ : GE} {Φ : List D → Prop} (p : Nat → Bool) (f : Nat → D) {n : Nat} {lo : Int} (hs : ∀ k < n, ∀ Ψ, Ψ (if p k = true then some (f k) else none) → elW g tt te Γ (.int (lo + k)) Ψ) (hl : n ≤ sizeLine) (h : Φ (((List.range n).filter p).map f)) : lcGo g tt te Γ (rngD lo n) [] Φ :=
  lc_filter (fun (i : Nat) => D.int (lo + i)) p f (List.range n) (fun k hk => hs k (List.mem_range.mp hk)) (by simpa using hl) h
/-- one statement, then the next: what holds behind it -/
theorem sqP {f g : WS} {Γ : GE} {κ : DK} (P : GE → Prop) (h1 : ∀ N : GE → Prop, (∀ Γ', P Γ' → N Γ') → f Γ { κ with nx := N }) (h2 : ∀ Γ', P Γ' → g Γ' κ) : sSeq f g Γ κ := h1 _ h2
@[simp] theorem use_same8 {a b : D} {P : D → Prop} : (∃ r, sp_law_same_n 8 [a, b] r ∧ P r) ↔ sm 8 a = true ∧ b = a ∧ P (.bl true) := by
  constructor
  · rintro ⟨_, ⟨d, h, e, rfl⟩, p⟩
    simp at e
    obtain ⟨rfl, rfl⟩ := e
    exact ⟨h, rfl, p⟩
  · rintro ⟨h, rfl, p⟩
    exact ⟨_, ⟨_, h, rfl, rfl⟩, p⟩
@[simp] theorem sm_intsL (n : Nat) (l : List Int) : sm (n + 1) (.lst (l.map .int)) = decide (l.length ≤ 1000000) := by simp
@[simp] theorem atI_c0 {α : Type} (x : α) (xs : List α) : atI (x :: xs) 0 = some x := by
  have := atI_nat (xs := x :: xs) (j := 0) (by rfl); exact this
@[simp] theorem atI_c1 {α : Type} (x y : α) (xs : List α) : atI (x :: y :: xs) 1 = some y := by
  have := atI_nat (xs := x :: y :: xs) (j := 1) (by rfl); exact this
@[simp] theorem atI_c2 {α : Type} (x y z : α) (xs : List α) : atI (x :: y :: z :: xs) 2 = some z := by
  have := atI_nat (xs := x :: y :: z :: xs) (j := 2) (by rfl); exact this
@[simp] theorem atI_c3 {α : Type} (x y z w : α) (xs : List α) : atI (x :: y :: z :: w :: xs) 3 = some w := by
  have := atI_nat (xs := x :: y :: z :: w :: xs) (j := 3) (by rfl); exact this
/-- an item of a list of ints -/
def gd (l : List Int) (i : Nat) : Int := l.getD i 0
theorem atI_gd {l : List Int} {i : Nat} (h : i < l.length) : atI (l.map D.int) (i : Int) = some (.int (gd l i)) := atI_ints h
theorem gd_mem {l : List Int} {i : Nat} {P : Int → Prop} (h : ∀ x ∈ l, P x) (hi : i < l.length) : P (gd l i) := getD_mem h hi
theorem gd_in {l : List Int} {i : Nat} (hi : i < l.length) : gd l i ∈ l := gd_mem (P := fun x => x ∈ l) (fun x h => h) hi
theorem atI_gd0 {l : List Int} (h : 0 < l.length) : atI (l.map D.int) 0 = some (.int (gd l 0)) := atI_gd (i := 0) h
theorem enum_gd (l : List Int) : enumD (l.map D.int) = (List.range l.length).map fun (i : Nat) => D.tup [.int (i : Int), .int (gd l i)] := by
  apply List.ext_getElem?
  intro i
  by_cases h : i < l.length
  · simp [enumD, List.getElem?_map, List.getElem?_range, h, gd]
  · simp [enumD, List.getElem?_eq_none (show l.length ≤ i by omega)]
    rw [List.getElem?_eq_none (by simpa using Nat.not_lt.mp h)]; rfl
@[simp] theorem size_le {k : Nat} (h : k ≤ 1000000) : k ≤ sizeLine := Nat.le_of_lt (line_le h)
@[simp] theorem size_lt {k : Nat} (h : k ≤ 1000000) : k < sizeLine := line_le h
@[simp] theorem ints_nats (l : List Nat) : ints? (l.map fun (k : Nat) => D.int (k : Int)) = some (l.map fun (k : Nat) => (k : Int)) := by
  have := ints_map (l.map fun (k : Nat) => (k : Int))
  rwa [List.map_map] at this
@[simp] theorem bls_mapF {α : Type} (f : α → Bool) (l : List α) : bls? (l.map fun a => D.bl (f a)) = some (l.map f) := by
  have := bls_map (l.map f)
  rwa [List.map_map] at this
@[simp] theorem ints_mapF {α : Type} (f : α → Int) (l : List α) : ints? (l.map fun a => D.int (f a)) = some (l.map f) := by
  have := ints_map (l.map f)
  rwa [List.map_map] at this
theorem all_id (bs : List Bool) : bs.all id = !decide (false ∈ bs) := by
  induction bs with
  | nil => rfl
  | cons b r ih => cases b <;> simp [ih]
/-! ### is_whole, is_within, _law_says -/
def sp_law_says : List D → D → Prop := fun ds d => ∃ a b : Bool, ds = [.bl a, .bl b] ∧ d = .bl (decide (a = b))
theorem sp_law_says_len : ∀ (ds : List D) (d : D), sp_law_says ds d → ds.length = 2 := by rintro _ _ ⟨_, _, rfl, _⟩; rfl
def sem_law_says : WS :=
  (sRet (wAndV (w1 (wIsi "bool") (wVar 0)) (w2 wEq (wVar 0) (wVar 1))))
theorem hf_law_says : ∀ (ds : List D) (d : D), sp_law_says ds d → sem_law_says (startG 2 ds) { nx := fun _ => false = false ∧ d = .non, rt := fun z => z = d } := by
  rintro _ _ ⟨a, b, rfl, rfl⟩
  simp [sem_law_says, startG, List.replicate]
@[simp] theorem use_says {a b : Bool} {P : D → Prop} : (∃ r, sp_law_says [.bl a, .bl b] r ∧ P r) ↔ P (.bl (decide (a = b))) := by
  constructor
  · rintro ⟨_, ⟨a', b', e, rfl⟩, p⟩
    simp at e
    obtain ⟨rfl, rfl⟩ := e
    exact p
  · intro p
    exact ⟨_, ⟨a, b, rfl, rfl⟩, p⟩
/-! ### is_whole, is_within, of ints -/
def sp_is_whole : List D → D → Prop := fun ds d => ∃ i : Int, ds = [.int i] ∧ d = .bl true
theorem sp_is_whole_len : ∀ (ds : List D) (d : D), sp_is_whole ds d → ds.length = 1 := by rintro _ _ ⟨_, rfl, _⟩; rfl
def sem_is_whole : WS :=
  (sRet (wAndV (w1 (wIsi "int") (wVar 0)) (wNotT (w1 (wIsi "bool") (wVar 0)))))
theorem hf_is_whole : ∀ (ds : List D) (d : D), sp_is_whole ds d → sem_is_whole (startG 1 ds) { nx := fun _ => false = false ∧ d = .non, rt := fun z => z = d } := by
  rintro _ _ ⟨i, rfl, rfl⟩
  simp [sem_is_whole, startG, List.replicate]
def sp_is_within : List D → D → Prop := fun ds d => ∃ v lo hi : Int, ds = [.int v, .int lo, .int hi] ∧ d = .bl (decide (lo ≤ v) && decide (v ≤ hi))
theorem sp_is_within_len : ∀ (ds : List D) (d : D), sp_is_within ds d → ds.length = 3 := by rintro _ _ ⟨_, _, _, rfl, _⟩; rfl
def sem_is_within : WS :=
  (sRet (wAndV (wFn sp_is_whole (wCons (wVar 0) wNil)) (wChain wLe wLe (wVar 1) (wVar 0) (wVar 2))))
theorem hf_is_within : ∀ (ds : List D) (d : D), sp_is_within ds d → sem_is_within (startG 3 ds) { nx := fun _ => false = false ∧ d = .non, rt := fun z => z = d } := by
  rintro _ _ ⟨v, lo, hi, rfl, rfl⟩
  simp [sem_is_within, startG, List.replicate]
  refine ⟨_, ⟨v, rfl, rfl⟩, ?_⟩
  simp
  by_cases h : lo ≤ v
  · simp [h]
  · simp [h]; omega
@[simp] theorem use_within {v lo hi : Int} {P : D → Prop} : (∃ r, sp_is_within [.int v, .int lo, .int hi] r ∧ P r) ↔ P (.bl (decide (lo ≤ v) && decide (v ≤ hi))) := by
  constructor
  · rintro ⟨_, ⟨_, _, _, e, rfl⟩, p⟩
    simp at e
    obtain ⟨rfl, rfl, rfl⟩ := e
    exact p
  · intro p
    exact ⟨_, ⟨v, lo, hi, rfl, rfl⟩, p⟩
end DL

set_option Elab.async false
set_option linter.all false
set_option maxRecDepth 100000
set_option maxHeartbeats 4000000
namespace DL
open PySem PySem.Spec PyProof.Rows L2
theorem lc2_list {α : Type} {g g1 : WG} {tt tt1 : WT} {wi1 : WA} {te : WE} {vs1 : List Nat} {Γ : GE} {Φ : List D → Prop} (e : α → D) (f : α → List D) (c : Nat) : ∀ (l : List α) (acc : List D), (∀ a ∈ l, (f a).length ≤ c) →
    (∀ a ∈ l, ∀ (acc : List D) (Ψ : List D → Prop), acc.length + c ≤ sizeLine → Ψ (acc ++ f a) → g (e a) Γ fun Γ1 => tt Γ1 fun b => if b = true then wi1 Γ1 fun ds1 => lcGo g1 tt1 te (wipeG Γ1 vs1) ds1 acc Ψ else Ψ acc) →
    acc.length + l.length * c ≤ sizeLine → Φ (acc ++ l.flatMap f) → lc2Go g tt wi1 g1 tt1 te vs1 Γ (l.map e) acc Φ
  | [], acc, _, _, _, h => by
    show Φ acc
    simpa using h
  | a :: l, acc, hf, hs, hl, h => by
    have e1 : (l.length + 1) * c = l.length * c + c := Nat.succ_mul _ _
    simp only [List.length_cons, e1] at hl
    have hc := hf a (by simp)
    refine hs a (by simp) acc _ (by omega) ?_
    refine lc2_list e f c l (acc ++ f a) (fun b hb => hf b (by simp [hb])) (fun b hb => hs b (by simp [hb])) (by simp; omega) ?_
    simpa using h
/-! ### cases -/
abbrev Cs := List Nat × Int
def natD (k : Nat) : D := .int (k : Int)
def tupM (M : List Nat) : D := .tup (M.map natD)
def cD (c : Cs) : D := .tup [tupM c.1, .int c.2]
def zC : Cs := ([], 0)
def ge (E : List Cs) (k : Nat) : Cs := E.getD k zC
theorem atI_ge {E : List Cs} {k : Nat} (h : k < E.length) : atI (E.map cD) (k : Int) = some (cD (ge E k)) := by
  refine atI_nat ?_; simp [ge, List.getD, h]
theorem ge_in {E : List Cs} {k : Nat} (h : k < E.length) : ge E k ∈ E := by
  unfold ge; rw [List.getD, List.getElem?_eq_getElem h]; exact List.getElem_mem h
def val (s : List Int) (M : List Nat) : Prop := M.length ≤ 1000 ∧ ∀ k ∈ M, k < s.length
def spk (s : List Int) (M : List Nat) (a : Int) : List Nat := M.filter fun k => decide (gd s k = a)
def inB (A M : List Nat) : Bool := allB (A.map fun m => decide (m ∈ M))
theorem inB_iff {A M : List Nat} : inB A M = true ↔ ∀ m ∈ A, m ∈ M := by simp [inB, allB_map]
def bindsB (s : List Int) (c : Cs) (M : List Nat) : Bool := inB (spk s c.1 c.2) M && inB (spk s M (1 - c.2)) c.1
theorem any_nat (M : List Nat) (m : Nat) : (M.map natD).any (fun z => deq z (.int (m : Int))) = decide (m ∈ M) := by
  induction M with
  | nil => rfl
  | cons a r ih =>
    rw [List.map_cons, List.any_cons, ih]
    by_cases h : a = m
    · subst h; simp [natD]
    · have : ¬ m = a := fun e => h e.symm
      have h2 : ¬ (a : Int) = (m : Int) := by omega
      simp [natD, h2, this]
theorem any_natI (M : List Nat) (m : Int) : (M.map natD).any (fun z => deq z (.int m)) = decide (m ∈ M.map fun (k : Nat) => (k : Int)) := by
  induction M with
  | nil => rfl
  | cons a r ih =>
    rw [List.map_cons, List.any_cons, ih]
    by_cases h : (a : Int) = m
    · subst h; simp [natD]
    · have : ¬ m = (a : Int) := fun e => h e.symm
      simp [natD, h, this]
@[simp] theorem in_tup {M : List Nat} {m : Nat} {Φ : D → Prop} : wInD false (natD m) (tupM M) Φ ↔ Φ (.bl (decide (m ∈ M))) := by
  show (_ ∧ _) ∧ Φ (.bl ((M.map natD).any fun z => deq z (.int (m : Int)))) ↔ _
  rw [any_nat]
  exact ⟨fun h => h.2, fun h => ⟨⟨rfl, by simp [natD, flatD]⟩, h⟩⟩
theorem in_turn {M : List Nat} {m i j : Nat} {Γ : GE} {Ψ : Option D → Prop} (h1 : (Γ.set i (some (.val (natD m))))[i]? = some (some (.val (natD m)))) (h2 : (Γ.set i (some (.val (natD m))))[j]? = some (some (.val (tupM M)))) (hΨ : Ψ (some (.bl (decide (m ∈ M))))) : elW (gSet i) wYes (w2 wIn (wVar i) (wVar j)) Γ (natD m) Ψ := by
  simp only [elW, gSet, wYes, if_true, w2, wVar]
  exact ⟨_, h1, _, h2, in_tup.mpr hΨ⟩
@[simp] theorem notin_tup {M : List Nat} {m : Nat} {Φ : D → Prop} : wInD true (natD m) (tupM M) Φ ↔ Φ (.bl (!decide (m ∈ M))) := by
  show (_ ∧ _) ∧ Φ (.bl (!((M.map natD).any fun z => deq z (.int (m : Int))))) ↔ _
  rw [any_nat]
  exact ⟨fun h => h.2, fun h => ⟨⟨rfl, by simp [natD, flatD]⟩, h⟩⟩
@[simp] theorem ix_c0 {c : Cs} {Φ : D → Prop} : wIx (cD c) (.int 0) Φ ↔ Φ (tupM c.1) := by simp [cD]
@[simp] theorem ix_c1 {c : Cs} {Φ : D → Prop} : wIx (cD c) (.int 1) Φ ↔ Φ (.int c.2) := by simp [cD]
@[simp] theorem it_tup {M : List Nat} {Φ : List D → Prop} : iterS (tupM M) Φ ↔ Φ (M.map natD) := Iff.rfl
@[simp] theorem it_lst {l : List D} {Φ : List D → Prop} : iterS (.lst l) Φ ↔ Φ l := Iff.rfl
@[simp] theorem len_tup {M : List Nat} {Φ : D → Prop} : wLen [tupM M] Φ ↔ Φ (.int M.length) := by simp [tupM]
@[simp] theorem set_c {c : Cs} {i j : Nat} {Γ : GE} {Φ : GE → Prop} : gTupD 2 (gsCons (gSet i) (gsCons (gSet j) gsNil)) (cD c) Γ Φ ↔ Φ ((Γ.set i (some (.val (tupM c.1)))).set j (some (.val (.int c.2)))) := by simp [cD]
theorem ix_nat {l : List D} {k : Nat} {v : D} {Φ : D → Prop} (h : atI l (k : Int) = some v) (p : Φ v) : wIx (.lst l) (natD k) Φ := ⟨v, h, p⟩
theorem flat_nat (M : List Nat) : (M.map natD).all flatD = true := by simp [natD, flatD]
def sp_speaking : List D → D → Prop := fun ds d => ∃ (s : List Int) (M : List Nat) (a : Int), val s M ∧ ds = [.lst (s.map .int), tupM M, .int a] ∧ d = .lst ((spk s M a).map natD)
theorem sp_speaking_len : ∀ (ds : List D) (d : D), sp_speaking ds d → ds.length = 3 := by rintro _ _ ⟨_, _, _, _, rfl, _⟩; rfl
def sem_speaking : WS :=
  (sRet (wLc (wItS (wVar 1)) (gSet 3) (wTest (w2 wEq (w2 wIx (wVar 0) (wVar 3)) (wVar 2))) (wVar 3) [3]))
theorem hf_speaking : ∀ (ds : List D) (d : D), sp_speaking ds d → sem_speaking (startG 4 ds) { nx := fun _ => false = false ∧ d = .non, rt := fun z => z = d } := by
  rintro _ _ ⟨s, M, a, ⟨hM, hv⟩, rfl, rfl⟩
  simp [sem_speaking, startG, List.replicate, wLc]
  refine lc_filter natD (fun k => decide (gd s k = a)) natD M (fun k hk Ψ hΨ => ?_) (size_le (by omega)) rfl
  simp only [elW, gSet, wTest, w2, wVar]
  simp
  refine ix_nat (atI_gd (hv k hk)) ?_
  simp
  by_cases h : gd s k = a
  · rw [decide_eq_true h] at hΨ; simp [h]; exact hΨ
  · rw [decide_eq_false h] at hΨ; simp [h]; exact hΨ
theorem use_speaking {s : List Int} {M : List Nat} {a : Int} {P : D → Prop} (h : val s M) (p : P (.lst ((spk s M a).map natD))) : ∃ d, sp_speaking [.lst (s.map .int), tupM M, .int a] d ∧ P d := ⟨_, ⟨s, M, a, h, rfl, rfl⟩, p⟩
theorem spk_len {s : List Int} {M : List Nat} {a : Int} : (spk s M a).length ≤ M.length := List.length_filter_le _ _
theorem all_mapid {α : Type} (l : List α) (p : α → Bool) : (l.map p).all id = l.all p := by rw [List.all_map]; rfl
def sp_binds : List D → D → Prop := fun ds d => ∃ (s : List Int) (c : Cs) (M : List Nat), val s c.1 ∧ val s M ∧ ds = [.lst (s.map .int), cD c, tupM M] ∧ d = .bl (bindsB s c M)
theorem sp_binds_len : ∀ (ds : List D) (d : D), sp_binds ds d → ds.length = 3 := by rintro _ _ ⟨_, _, _, _, _, rfl, _⟩; rfl
theorem use_binds {s : List Int} {c : Cs} {M : List Nat} {P : D → Prop} (h : val s c.1) (h' : val s M) (p : P (.bl (bindsB s c M))) : ∃ d, sp_binds [.lst (s.map .int), cD c, tupM M] d ∧ P d := ⟨_, ⟨s, c, M, h, h', rfl, rfl⟩, p⟩
def sem_binds : WS :=
  (sSeq (sAsg (wVar 1) (gTupD 2 (gsCons (gSet 3) (gsCons (gSet 4) gsNil))))
  (sSeq (sIf (wNot (wTru (wCall wAllB (wCons (wLc (wItS (wFn sp_speaking (wCons (wVar 0) (wCons (wVar 3) (wCons (wVar 4) wNil))))) (gSet 5) wYes (w2 wIn (wVar 5) (wVar 2)) [5]) wNil))))
  (sRet (wC (.bl false)))
  sNext)
  (sRet (wCall wAllB (wCons (wLc (wItS (wFn sp_speaking (wCons (wVar 0) (wCons (wVar 2) (wCons (w2 wSub (wC (.int 1)) (wVar 4)) wNil))))) (gSet 5) wYes (w2 wIn (wVar 5) (wVar 3)) [5]) wNil)))))
theorem hf_binds : ∀ (ds : List D) (d : D), sp_binds ds d → sem_binds (startG 6 ds) { nx := fun _ => false = false ∧ d = .non, rt := fun z => z = d } := by
  rintro _ _ ⟨s, c, M, h1, h2, rfl, rfl⟩
  have e1 := spk_len (s := s) (M := c.1) (a := c.2)
  have e2 := spk_len (s := s) (M := M) (a := 1 - c.2)
  have f1 := h1.1
  have f2 := h2.1
  simp [sem_binds, startG, List.replicate, wLc, cD]
  refine use_speaking h1 ?_
  simp only [it_lst]
  refine lc_map natD (fun m => .bl (decide (m ∈ M))) (spk s c.1 c.2) (fun m hm Ψ hΨ => in_turn rfl rfl hΨ) (size_le (by omega)) ?_
  simp only [bls_mapF]
  refine ⟨_, rfl, ?_⟩
  show if inB (spk s c.1 c.2) M = true then _ else _
  cases q : inB (spk s c.1 c.2) M with
  | false => simp [bindsB, q]
  | true =>
    simp only [if_true]
    refine use_speaking h2 ?_
    simp only [it_lst]
    refine lc_map natD (fun m => .bl (decide (m ∈ c.1))) (spk s M (1 - c.2)) (fun m hm Ψ hΨ => in_turn rfl rfl hΨ) (size_le (by omega)) ?_
    simp only [bls_mapF]
    refine ⟨_, rfl, ?_⟩
    show inB _ _ = _
    simp [bindsB, q]
def clsh (s : List Int) (c e : Cs) : Bool := decide (c.2 ≠ e.2) && bindsB s c e.1
def sp_clash : List D → D → Prop := fun ds d => ∃ (s : List Int) (c e : Cs), val s c.1 ∧ val s e.1 ∧ ds = [.lst (s.map .int), cD c, cD e] ∧ d = .bl (clsh s c e)
theorem sp_clash_len : ∀ (ds : List D) (d : D), sp_clash ds d → ds.length = 3 := by rintro _ _ ⟨_, _, _, _, _, rfl, _⟩; rfl
def sem_clash : WS :=
  (sRet (wAndV (w2 wNe (w2 wIx (wVar 1) (wC (.int 1))) (w2 wIx (wVar 2) (wC (.int 1)))) (wFn sp_binds (wCons (wVar 0) (wCons (wVar 1) (wCons (w2 wIx (wVar 2) (wC (.int 0))) wNil))))))
theorem hf_clash : ∀ (ds : List D) (d : D), sp_clash ds d → sem_clash (startG 3 ds) { nx := fun _ => false = false ∧ d = .non, rt := fun z => z = d } := by
  rintro _ _ ⟨s, c, e, h1, h2, rfl, rfl⟩
  simp [sem_clash, startG, List.replicate, cD]
  by_cases h : c.2 = e.2
  · exact .inl ⟨h, by simp [clsh, h]⟩
  · refine .inr ⟨h, ⟨s, c, e.1, h1, h2, rfl, ?_⟩⟩
    simp [clsh, h]
def clT (s : List Int) (E : List Cs) (k : Nat) : List (Nat × Nat) := ((List.range (E.length - (k + 1))).filter fun t => clsh s (ge E k) (ge E (k + 1 + t))).map fun t => (k, k + 1 + t)
def clL (s : List Int) (E : List Cs) : List (Nat × Nat) := (List.range E.length).flatMap (clT s E)
def prD' (p : Nat × Nat) : D := .tup [.int (p.1 : Int), .int (p.2 : Int)]
def vals (s : List Int) (E : List Cs) : Prop := E.length ≤ 100 ∧ ∀ c ∈ E, val s c.1
def sp_clashes : List D → D → Prop := fun ds d => ∃ (s : List Int) (E : List Cs), vals s E ∧ ds = [.lst (s.map .int), .lst (E.map cD)] ∧ d = .lst ((clL s E).map prD')
theorem sp_clashes_len : ∀ (ds : List D) (d : D), sp_clashes ds d → ds.length = 2 := by rintro _ _ ⟨_, _, _, rfl, _⟩; rfl
def sem_clashes : WS :=
  (sSeq (sSet 2 (wCall wLen (wCons (wVar 1) wNil)))
  (sRet (wLc2 (wItR1 (wCons (wVar 2) wNil)) (gSet 3) wYes (wItR2 (wCons (w2 wAdd (wVar 3) (wC (.int 1))) (wCons (wVar 2) wNil))) (gSet 4) (wTru (wFn sp_clash (wCons (wVar 0) (wCons (w2 wIx (wVar 1) (wVar 3)) (wCons (w2 wIx (wVar 1) (wVar 4)) wNil))))) (wTup (wCons (wVar 3) (wCons (wVar 4) wNil))) [3, 4] [4])))
theorem hf_clashes : ∀ (ds : List D) (d : D), sp_clashes ds d → sem_clashes (startG 5 ds) { nx := fun _ => false = false ∧ d = .non, rt := fun z => z = d } := by
  rintro _ _ ⟨s, E, ⟨hE, hv⟩, rfl, rfl⟩
  simp [sem_clashes, startG, List.replicate, wLc2]
  refine ⟨by omega, ?_⟩
  refine lc2_list (fun (i : Nat) => D.int (0 + i)) (fun k => (clT s E k).map prD') 100 (List.range E.length) [] (fun k hk => ?_) (fun k hk acc Ψ hacc hΨ => ?_) ?_ ?_
  · have := List.length_filter_le (fun t => clsh s (ge E k) (ge E (k + 1 + t))) (List.range (E.length - (k + 1)))
    simp at this
    simp [clT]; omega
  · have hk : k < E.length := List.mem_range.mp hk
    simp [show (k : Int) + 1 < 4611686018427387904 by omega, show (E.length : Int) < 4611686018427387904 by omega, show -4611686018427387904 ≤ (k : Int) + 1 by omega]
    rw [show ((E.length : Int) - ((k : Int) + 1)).toNat = E.length - (k + 1) by omega]
    refine lc_filterMap (fun (i : Nat) => D.int ((k : Int) + 1 + i)) (fun t => if clsh s (ge E k) (ge E (k + 1 + t)) = true then some (prD' (k, k + 1 + t)) else none) (List.range (E.length - (k + 1))) acc (fun t ht Ψ' hΨ' => ?_) (by simp; omega) ?_
    · have ht : t < E.length - (k + 1) := List.mem_range.mp ht
      have a1 := atI_ge hk
      have a2 := atI_ge (E := E) (k := k + 1 + t) (by omega)
      rw [show ((k + 1 + t : Nat) : Int) = (k : Int) + 1 + t by omega] at a2
      simp [elW, a1, a2]
      refine ⟨_, ⟨s, ge E k, ge E (k + 1 + t), hv _ (ge_in hk), hv _ (ge_in (by omega)), rfl, rfl⟩, ?_⟩
      cases q : clsh s (ge E k) (ge E (k + 1 + t)) with
      | false => rw [q] at hΨ'; simpa using hΨ'
      | true => rw [q] at hΨ'; simp [prD', Int.add_assoc] at hΨ' ⊢; exact hΨ'
    · have e : (List.range (E.length - (k + 1))).filterMap (fun t => if clsh s (ge E k) (ge E (k + 1 + t)) = true then some (prD' (k, k + 1 + t)) else none) = (clT s E k).map prD' := by
        unfold clT
        rw [List.map_map]
        induction (List.range (E.length - (k + 1))) with
        | nil => rfl
        | cons a r ih => by_cases q : clsh s (ge E k) (ge E (k + 1 + a)) = true <;> simp [q, ih]
      rw [e]; exact hΨ
  · have := size_le (show 100 * 100 ≤ 1000000 by omega)
    have : E.length * 100 ≤ 100 * 100 := Nat.mul_le_mul_right _ hE
    simp; omega
  · simp [clL, List.map_flatMap]
end DL

set_option Elab.async false
set_option linter.all false
set_option maxRecDepth 100000
set_option maxHeartbeats 4000000
namespace DL
open PySem PySem.Spec PyProof.Rows L2
theorem enum_map {α : Type} (e : α → D) (z : α) (l : List α) : enumD (l.map e) = (List.range l.length).map fun (i : Nat) => D.tup [.int (i : Int), e (l.getD i z)] := by
  apply List.ext_getElem?
  intro i
  by_cases h : i < l.length
  · simp [enumD, List.getElem?_map, List.getElem?_range, h]
  · simp [enumD, List.getElem?_eq_none (show l.length ≤ i by omega)]
    rw [List.getElem?_eq_none (by simpa using Nat.not_lt.mp h)]; rfl
def bnd (s : List Int) (E : List Cs) (M : List Nat) (a : Int) : List Nat := (List.range E.length).filter fun k => decide ((ge E k).2 = a) && bindsB s (ge E k) M
theorem mem_bnd {s : List Int} {E : List Cs} {M : List Nat} {a : Int} {k : Nat} : k ∈ bnd s E M a ↔ k < E.length ∧ (ge E k).2 = a ∧ bindsB s (ge E k) M = true := by
  simp [bnd]
theorem bnd_len {s : List Int} {E : List Cs} {M : List Nat} {a : Int} : (bnd s E M a).length ≤ E.length := by
  have := List.length_filter_le (fun k => decide ((ge E k).2 = a) && bindsB s (ge E k) M) (List.range E.length)
  simpa [bnd] using this
def sp_binding : List D → D → Prop := fun ds d => ∃ (s : List Int) (E : List Cs) (M : List Nat) (a : Int), vals s E ∧ val s M ∧ ds = [.lst (s.map .int), .lst (E.map cD), tupM M, .int a] ∧ d = .lst ((bnd s E M a).map natD)
theorem sp_binding_len : ∀ (ds : List D) (d : D), sp_binding ds d → ds.length = 4 := by rintro _ _ ⟨_, _, _, _, _, _, rfl, _⟩; rfl
theorem use_binding {s : List Int} {E : List Cs} {M : List Nat} {a : Int} {P : D → Prop} (h : vals s E) (h' : val s M) (p : P (.lst ((bnd s E M a).map natD))) : ∃ d, sp_binding [.lst (s.map .int), .lst (E.map cD), tupM M, .int a] d ∧ P d := ⟨_, ⟨s, E, M, a, h, h', rfl, rfl⟩, p⟩
def sem_binding : WS :=
  (sRet (wLc (wItE (wCons (wVar 1) wNil)) (gTupD 2 (gsCons (gSet 4) (gsCons (gSet 5) gsNil))) (wAnd (wTest (w2 wEq (w2 wIx (wVar 5) (wC (.int 1))) (wVar 3))) (wTru (wFn sp_binds (wCons (wVar 0) (wCons (wVar 5) (wCons (wVar 2) wNil)))))) (wVar 4) [4, 5]))
theorem hf_binding : ∀ (ds : List D) (d : D), sp_binding ds d → sem_binding (startG 6 ds) { nx := fun _ => false = false ∧ d = .non, rt := fun z => z = d } := by
  rintro _ _ ⟨s, E, M, a, ⟨hE, hv⟩, hM, rfl, rfl⟩
  simp [sem_binding, startG, List.replicate, wLc]
  rw [enum_map cD zC]
  refine lc_filter (fun (i : Nat) => D.tup [.int (i : Int), cD (ge E i)]) (fun k => decide ((ge E k).2 = a) && bindsB s (ge E k) M) natD (List.range E.length) (fun k hk Ψ hΨ => ?_) (size_le (by simp; omega)) rfl
  have hk : k < E.length := List.mem_range.mp hk
  have hb : ∀ P : D → Prop, P (.bl (bindsB s (ge E k) M)) → ∃ d, sp_binds [.lst (s.map .int), .tup [tupM (ge E k).1, .int (ge E k).2], tupM M] d ∧ P d := fun P => use_binds (c := ge E k) (hv _ (ge_in hk)) hM
  simp [elW, cD]
  by_cases h : (ge E k).2 = a
  · rw [if_pos h]
    refine hb _ ?_
    rw [decide_eq_true h] at hΨ
    cases q : bindsB s (ge E k) M with
    | false => rw [q] at hΨ; simpa using hΨ
    | true => rw [q] at hΨ; simpa [natD] using hΨ
  · rw [if_neg h]; rw [decide_eq_false h] at hΨ; simpa using hΨ
def sp_law_binding : List D → D → Prop := fun ds d => ∃ (s : List Int) (E : List Cs) (M : List Nat) (a : Int), (∀ x ∈ s, x = 0 ∨ x = 1) ∧ (∀ c ∈ E, c.2 = 0 ∨ c.2 = 1) ∧ vals s E ∧ val s M ∧ ds = [.lst (s.map .int), .lst (E.map cD), tupM M, .int a] ∧ d = .lst ((bnd s E M a).map natD)
theorem sp_law_binding_len : ∀ (ds : List D) (d : D), sp_law_binding ds d → ds.length = 4 := by rintro _ _ ⟨_, _, _, _, _, _, _, _, rfl, _⟩; rfl
def sp_law_binds : List D → D → Prop := fun ds d => ∃ (s : List Int) (c : Cs) (M : List Nat), (∀ x ∈ s, x = 0 ∨ x = 1) ∧ (c.2 = 0 ∨ c.2 = 1) ∧ val s c.1 ∧ val s M ∧ ds = [.lst (s.map .int), cD c, tupM M] ∧ d = .bl (bindsB s c M)
theorem sp_law_binds_len : ∀ (ds : List D) (d : D), sp_law_binds ds d → ds.length = 3 := by rintro _ _ ⟨_, _, _, _, _, _, _, rfl, _⟩; rfl
theorem use_law_binds {s : List Int} {c : Cs} {M : List Nat} {P : D → Prop} (hs : ∀ x ∈ s, x = 0 ∨ x = 1) (hc : c.2 = 0 ∨ c.2 = 1) (h : val s c.1) (h' : val s M) (p : P (.bl (bindsB s c M))) : ∃ d, sp_law_binds [.lst (s.map .int), cD c, tupM M] d ∧ P d := ⟨_, ⟨s, c, M, hs, hc, h, h', rfl, rfl⟩, p⟩
theorem binds_eq {s : List Int} {c : Cs} {M : List Nat} (hs : ∀ x ∈ s, x = 0 ∨ x = 1) (hc : c.2 = 0 ∨ c.2 = 1) (h1 : val s c.1) (h2 : val s M) : bindsB s c M = decide ((c.1.filter fun m => decide (gd s m = c.2) && !decide (m ∈ M)).length + (M.filter fun m => !decide (gd s m = c.2) && !decide (m ∈ c.1)).length = 0) := by
  have e1 : inB (spk s c.1 c.2) M = decide ((c.1.filter fun m => decide (gd s m = c.2) && !decide (m ∈ M)).length = 0) := by
    rw [Bool.eq_iff_iff, inB_iff, decide_eq_true_eq, List.length_eq_zero_iff, List.filter_eq_nil_iff]
    simp [spk]
  have e2 : inB (spk s M (1 - c.2)) c.1 = decide ((M.filter fun m => !decide (gd s m = c.2) && !decide (m ∈ c.1)).length = 0) := by
    rw [Bool.eq_iff_iff, inB_iff, decide_eq_true_eq, List.length_eq_zero_iff, List.filter_eq_nil_iff]
    simp only [spk, List.mem_filter, decide_eq_true_eq, Bool.and_eq_true, Bool.not_eq_true', decide_eq_false_iff_not]
    constructor
    · rintro h m hm ⟨h3, h4⟩
      have := hs _ (gd_in (h2.2 m hm))
      exact h4 (h m ⟨hm, by omega⟩)
    · rintro h m ⟨hm, h3⟩
      by_cases q : m ∈ c.1
      · exact q
      · exact absurd ⟨by omega, q⟩ (h m hm)
  unfold bindsB
  rw [e1, e2, ← Bool.decide_and]
  congr 1
  apply propext
  omega
def sem_law_binds : WS :=
  (sSeq (sSet 3 (wLc (wItS (w2 wIx (wVar 1) (wC (.int 0)))) (gSet 5) (wAnd (wTest (w2 wEq (w2 wIx (wVar 0) (wVar 5)) (w2 wIx (wVar 1) (wC (.int 1))))) (wTest (w2 wNotIn (wVar 5) (wVar 2)))) (wVar 5) [5]))
  (sSeq (sSet 4 (wLc (wItS (wVar 2)) (gSet 5) (wAnd (wTest (w2 wNe (w2 wIx (wVar 0) (wVar 5)) (w2 wIx (wVar 1) (wC (.int 1))))) (wTest (w2 wNotIn (wVar 5) (w2 wIx (wVar 1) (wC (.int 0)))))) (wVar 5) [5]))
  (sRet (w2 wEq (w2 wAdd (wCall wLen (wCons (wVar 3) wNil)) (wCall wLen (wCons (wVar 4) wNil))) (wC (.int 0))))))
theorem hf_law_binds : ∀ (ds : List D) (d : D), sp_law_binds ds d → sem_law_binds (startG 6 ds) { nx := fun _ => false = false ∧ d = .non, rt := fun z => z = d } := by
  rintro _ _ ⟨s, c, M, hs, hc, h1, h2, rfl, rfl⟩
  have f1 := h1.1
  have f2 := h2.1
  simp [sem_law_binds, startG, List.replicate, wLc, cD, tupM]
  refine lc_filter natD (fun m => decide (gd s m = c.2) && !decide (m ∈ M)) natD c.1 (fun m hm Ψ hΨ => ?_) (size_le (by omega)) ?_
  · have a := atI_gd (h1.2 m hm)
    simp [elW, natD, a, flatD]
    by_cases q1 : gd s m = c.2
    · rw [if_pos q1]
      by_cases q2 : m ∈ M
      · simp [q1, q2] at hΨ; exact .inl ⟨⟨m, q2, rfl⟩, hΨ⟩
      · simp [q1, q2, natD] at hΨ; exact .inr ⟨fun x hx e => q2 (by rwa [show x = m by omega] at hx), hΨ⟩
    · rw [if_neg q1]; simp [q1] at hΨ; exact hΨ
  refine lc_filter natD (fun m => !decide (gd s m = c.2) && !decide (m ∈ c.1)) natD M (fun m hm Ψ hΨ => ?_) (size_le (by omega)) ?_
  · have a := atI_gd (h2.2 m hm)
    simp [elW, natD, a, flatD]
    by_cases q1 : gd s m = c.2
    · simp [q1] at hΨ; exact .inl ⟨q1, hΨ⟩
    · refine .inr ⟨q1, ?_⟩
      by_cases q2 : m ∈ c.1
      · simp [q1, q2] at hΨ; exact .inl ⟨⟨m, q2, rfl⟩, hΨ⟩
      · simp [q1, q2, natD] at hΨ; exact .inr ⟨fun x hx e => q2 (by rwa [show x = m by omega] at hx), hΨ⟩
  simp
  rw [binds_eq hs hc h1 h2]
  congr 1
  apply propext
  omega
def sem_law_binding : WS :=
  (sRet (wLc (wItR1 (wCons (wCall wLen (wCons (wVar 1) wNil)) wNil)) (gSet 4) (wAnd (wTest (w2 wEq (w2 wIx (w2 wIx (wVar 1) (wVar 4)) (wC (.int 1))) (wVar 3))) (wTru (wFn sp_law_binds (wCons (wVar 0) (wCons (w2 wIx (wVar 1) (wVar 4)) (wCons (wVar 2) wNil)))))) (wVar 4) [4]))
theorem hf_law_binding : ∀ (ds : List D) (d : D), sp_law_binding ds d → sem_law_binding (startG 5 ds) { nx := fun _ => false = false ∧ d = .non, rt := fun z => z = d } := by
  rintro _ _ ⟨s, E, M, a, hs, hc, ⟨hE, hv⟩, hM, rfl, rfl⟩
  simp [sem_law_binding, startG, List.replicate, wLc]
  refine ⟨by omega, lc_rngF (fun k => decide ((ge E k).2 = a) && bindsB s (ge E k) M) natD (fun k hk Ψ hΨ => ?_) (size_le (by omega)) rfl⟩
  have h1 := atI_ge hk
  have hb : ∀ P : D → Prop, P (.bl (bindsB s (ge E k) M)) → ∃ d, sp_law_binds [.lst (s.map .int), .tup [tupM (ge E k).1, .int (ge E k).2], tupM M] d ∧ P d := fun P => use_law_binds (c := ge E k) hs (hc _ (ge_in hk)) (hv _ (ge_in hk)) hM
  simp [elW, h1]
  simp [cD]
  by_cases h : (ge E k).2 = a
  · rw [if_pos h]
    refine hb _ ?_
    rw [decide_eq_true h] at hΨ
    cases q : bindsB s (ge E k) M with
    | false => rw [q] at hΨ; simpa using hΨ
    | true => rw [q] at hΨ; simpa [natD] using hΨ
  · rw [if_neg h]; rw [decide_eq_false h] at hΨ; simpa using hΨ
theorem use_law_binding {s : List Int} {E : List Cs} {M : List Nat} {a : Int} {P : D → Prop} (hs : ∀ x ∈ s, x = 0 ∨ x = 1) (hc : ∀ c ∈ E, c.2 = 0 ∨ c.2 = 1) (h : vals s E) (h' : val s M) (p : P (.lst ((bnd s E M a).map natD))) : ∃ d, sp_law_binding [.lst (s.map .int), .lst (E.map cD), tupM M, .int a] d ∧ P d := ⟨_, ⟨s, E, M, a, hs, hc, h, h', rfl, rfl⟩, p⟩
end DL

set_option Elab.async false
set_option linter.all false
set_option maxRecDepth 100000
set_option maxHeartbeats 4000000
namespace DL
open PySem PySem.Spec PyProof.Rows L2
@[simp] theorem w_1 : ¬ (("clash" : Str) = "free") := by decide +kernel
@[simp] theorem w_2 : ¬ (("bound" : Str) = "free") := by decide +kernel
@[simp] theorem w_3 : ¬ (("free" : Str) = "clash") := by decide +kernel
@[simp] theorem w_4 : ¬ (("bound" : Str) = "clash") := by decide +kernel
@[simp] theorem w_5 : ¬ (("free" : Str) = "bound") := by decide +kernel
@[simp] theorem w_6 : ¬ (("clash" : Str) = "bound") := by decide +kernel
@[simp] theorem k_1 : PyData.strOk ("clash" : Str) = true := by decide +kernel
@[simp] theorem k_2 : PyData.strOk ("bound" : Str) = true := by decide +kernel
@[simp] theorem k_3 : PyData.strOk ("free" : Str) = true := by decide +kernel
@[simp] theorem k_4 : PyData.strOk ("frees" : Str) = true := by decide +kernel
@[simp] theorem k_5 : PyData.strOk ("bond" : Str) = true := by decide +kernel
abbrev Pq := Str × List Int
def pqD (p : Pq) : D := .tup (.str p.1 :: p.2.map .int)
def dueB (s : List Int) (E : List Cs) (M : List Nat) : Pq := match bnd s E M 1, bnd s E M 0 with
  | a :: _, b :: _ => ("clash", [(a : Int), (b : Int)])
  | a :: _, [] => ("bound", [1, (a : Int)])
  | [], b :: _ => ("bound", [0, (b : Int)])
  | [], [] => ("free", [0])
def sp_find_bound : List D → D → Prop := fun ds d => ∃ (s : List Int) (E : List Cs) (M : List Nat), vals s E ∧ val s M ∧ ds = [.lst (s.map .int), .lst (E.map cD), tupM M] ∧ d = pqD (dueB s E M)
theorem sp_find_bound_len : ∀ (ds : List D) (d : D), sp_find_bound ds d → ds.length = 3 := by rintro _ _ ⟨_, _, _, _, _, rfl, _⟩; rfl
def isBd (s : List Int) (E : List Cs) (M : List Nat) (a x : Int) : Bool := (decide (0 ≤ x) && decide (x ≤ (E.length : Int) - 1)) && (decide ((ge E x.toNat).2 = a) && bindsB s (ge E x.toNat) M)
def sp_is_binding : List D → D → Prop := fun ds d => ∃ (s : List Int) (E : List Cs) (M : List Nat) (a x : Int), vals s E ∧ val s M ∧ ds = [.lst (s.map .int), .lst (E.map cD), tupM M, .int a, .int x] ∧ d = .bl (isBd s E M a x)
theorem sp_is_binding_len : ∀ (ds : List D) (d : D), sp_is_binding ds d → ds.length = 5 := by rintro _ _ ⟨_, _, _, _, _, _, _, rfl, _⟩; rfl
theorem use_is_binding {s : List Int} {E : List Cs} {M : List Nat} {a x : Int} {P : D → Prop} (h : vals s E) (h' : val s M) (p : P (.bl (isBd s E M a x))) : ∃ d, sp_is_binding [.lst (s.map .int), .lst (E.map cD), tupM M, .int a, .int x] d ∧ P d := ⟨_, ⟨s, E, M, a, x, h, h', rfl, rfl⟩, p⟩
def judgeB (s : List Int) (E : List Cs) (M : List Nat) (p : Pq) : Bool := match p.2 with
  | [x] => decide (p.1 = "free") && (decide (x = 0) && !anyB (E.map fun c => bindsB s c M))
  | [x, y] => if p.1 = "clash" then isBd s E M 1 x && isBd s E M 0 y else if p.1 = "bound" then isBd s E M x y && (bnd s E M (1 - x)).isEmpty else false
  | _ => false
def sp_judge_bound : List D → D → Prop := fun ds d => ∃ (s : List Int) (E : List Cs) (M : List Nat) (p : Pq), vals s E ∧ val s M ∧ PyData.strOk p.1 = true ∧ ds = [.lst (s.map .int), .lst (E.map cD), tupM M, pqD p] ∧ d = .bl (judgeB s E M p)
theorem sp_judge_bound_len : ∀ (ds : List D) (d : D), sp_judge_bound ds d → ds.length = 4 := by rintro _ _ ⟨_, _, _, _, _, _, _, rfl, _⟩; rfl
def sem_find_bound : WS :=
  (sSeq (sSet 3 (wFn sp_binding (wCons (wVar 0) (wCons (wVar 1) (wCons (wVar 2) (wCons (wC (.int 1)) wNil))))))
  (sSeq (sSet 4 (wFn sp_binding (wCons (wVar 0) (wCons (wVar 1) (wCons (wVar 2) (wCons (wC (.int 0)) wNil))))))
  (sSeq (sIf (wAnd (wTru (wVar 3)) (wTru (wVar 4)))
  (sRet (wTup (wCons (wC (.str "clash")) (wCons (w2 wIx (wVar 3) (wC (.int 0))) (wCons (w2 wIx (wVar 4) (wC (.int 0))) wNil)))))
  sNext)
  (sSeq (sIf (wTru (wVar 3))
  (sRet (wTup (wCons (wC (.str "bound")) (wCons (wC (.int 1)) (wCons (w2 wIx (wVar 3) (wC (.int 0))) wNil)))))
  sNext)
  (sSeq (sIf (wTru (wVar 4))
  (sRet (wTup (wCons (wC (.str "bound")) (wCons (wC (.int 0)) (wCons (w2 wIx (wVar 4) (wC (.int 0))) wNil)))))
  sNext)
  (sRet (wTup (wCons (wC (.str "free")) (wCons (wC (.int 0)) wNil)))))))))
def sem_is_binding : WS :=
  (sRet (wAndV (wFn sp_is_within (wCons (wVar 4) (wCons (wC (.int 0)) (wCons (w2 wSub (wCall wLen (wCons (wVar 1) wNil)) (wC (.int 1))) wNil)))) (wAndV (w2 wEq (w2 wIx (w2 wIx (wVar 1) (wVar 4)) (wC (.int 1))) (wVar 3)) (wFn sp_binds (wCons (wVar 0) (wCons (w2 wIx (wVar 1) (wVar 4)) (wCons (wVar 2) wNil)))))))
def sem_judge_bound : WS :=
  (sSeq (sIf (wAnd (wTest (w2 wEq (wCall wLen (wCons (wVar 3) wNil)) (wC (.int 2)))) (wTest (w2 wEq (w2 wIx (wVar 3) (wC (.int 0))) (wC (.str "free")))))
  (sRet (wAndV (w2 wEq (w2 wIx (wVar 3) (wC (.int 1))) (wC (.int 0))) (wNotT (wCall wAnyB (wCons (wLc (wItS (wVar 1)) (gSet 5) wYes (wFn sp_binds (wCons (wVar 0) (wCons (wVar 5) (wCons (wVar 2) wNil)))) [5]) wNil)))))
  sNext)
  (sSeq (sIf (wTest (w2 wNe (wCall wLen (wCons (wVar 3) wNil)) (wC (.int 3))))
  (sRet (wC (.bl false)))
  sNext)
  (sSeq (sAsg (wVar 3) (gTupD 3 (gsCons (gSet 4) (gsCons (gSet 5) (gsCons (gSet 6) gsNil)))))
  (sSeq (sIf (wTest (w2 wEq (wVar 4) (wC (.str "clash"))))
  (sRet (wAndV (wFn sp_is_binding (wCons (wVar 0) (wCons (wVar 1) (wCons (wVar 2) (wCons (wC (.int 1)) (wCons (wVar 5) wNil)))))) (wFn sp_is_binding (wCons (wVar 0) (wCons (wVar 1) (wCons (wVar 2) (wCons (wC (.int 0)) (wCons (wVar 6) wNil))))))))
  sNext)
  (sSeq (sIf (wOr (wTest (w2 wNe (wVar 4) (wC (.str "bound")))) (wNot (wTru (wFn sp_is_binding (wCons (wVar 0) (wCons (wVar 1) (wCons (wVar 2) (wCons (wVar 5) (wCons (wVar 6) wNil)))))))))
  (sRet (wC (.bl false)))
  sNext)
  (sRet (wNotT (wFn sp_binding (wCons (wVar 0) (wCons (wVar 1) (wCons (wVar 2) (wCons (w2 wSub (wC (.int 1)) (wVar 5)) wNil))))))))))))
theorem hf_find_bound : ∀ (ds : List D) (d : D), sp_find_bound ds d → sem_find_bound (startG 5 ds) { nx := fun _ => false = false ∧ d = .non, rt := fun z => z = d } := by
  rintro _ _ ⟨s, E, M, h1, h2, rfl, rfl⟩
  simp [sem_find_bound, startG, List.replicate]
  refine use_binding h1 h2 (use_binding h1 h2 ?_)
  unfold dueB
  cases q1 : bnd s E M 1 <;> cases q0 : bnd s E M 0 <;> simp [pqD, natD]
theorem hf_is_binding : ∀ (ds : List D) (d : D), sp_is_binding ds d → sem_is_binding (startG 5 ds) { nx := fun _ => false = false ∧ d = .non, rt := fun z => z = d } := by
  rintro _ _ ⟨s, E, M, a, x, h1, h2, rfl, rfl⟩
  simp [sem_is_binding, startG, List.replicate]
  by_cases hx : 0 ≤ x ∧ x ≤ (E.length : Int) - 1
  · obtain ⟨k, rfl⟩ := Int.eq_ofNat_of_zero_le hx.1
    refine .inr ⟨hx, ?_⟩
    have hk : k < E.length := by omega
    have ha := atI_ge hk
    simp [ha]
    simp [cD]
    have e : (decide (0 ≤ (k : Int)) && decide ((k : Int) ≤ (E.length : Int) - 1)) = true := by simp; omega
    by_cases q : (ge E k).2 = a
    · rw [if_pos q]
      refine ⟨s, ge E k, M, h1.2 _ (ge_in hk), h2, rfl, ?_⟩
      rw [isBd, e]; simp [q]
    · rw [if_neg q]
      rw [isBd, e]; simp [q]
  · refine .inl ⟨by omega, ?_⟩
    have e : (decide (0 ≤ x) && decide (x ≤ (E.length : Int) - 1)) = false := by simp; omega
    rw [isBd, e]; rfl
theorem any_turn {s : List Int} {E : List Cs} {M : List Nat} {x3 x4 x6 : Option Sl} {Φ : List D → Prop} (h1 : vals s E) (h2 : val s M) (h : Φ ((E.map fun c => bindsB s c M).map D.bl)) :
    lcGo (gSet 5) wYes (wFn sp_binds (wCons (wVar 0) (wCons (wVar 5) (wCons (wVar 2) wNil)))) [some (.val (.lst (s.map .int))), some (.val (.lst (E.map cD))), some (.val (tupM M)), x3, x4, none, x6] (E.map cD) [] Φ := by
  refine lc_map cD (fun c => .bl (bindsB s c M)) E (fun c hc Ψ hΨ => ?_) (size_le (by have := h1.1; omega)) (by rw [List.map_map] at h; exact h)
  simp [elW]
  exact use_binds (h1.2 c hc) h2 hΨ
theorem hf_judge_bound : ∀ (ds : List D) (d : D), sp_judge_bound ds d → sem_judge_bound (startG 7 ds) { nx := fun _ => false = false ∧ d = .non, rt := fun z => z = d } := by
  rintro _ _ ⟨s, E, M, ⟨w, xs⟩, h1, h2, hw, rfl, rfl⟩
  have hE := h1.1
  simp at hw
  generalize hJ : judgeB s E M (w, xs) = J
  match xs, hJ with
  | [], hJ => simp [judgeB] at hJ; subst hJ; simp [sem_judge_bound, startG, List.replicate, wLc, pqD]
  | [x], hJ =>
    simp only [judgeB] at hJ
    simp [sem_judge_bound, startG, List.replicate, wLc, pqD, hw]
    by_cases q1 : w = "free"
    · rw [if_pos q1]
      by_cases q2 : x = 0
      · rw [if_pos q2]
        refine any_turn h1 h2 ⟨_, bls_map _, ?_⟩
        rw [← hJ, decide_eq_true q1, decide_eq_true q2]; simp
      · rw [if_neg q2, ← hJ, decide_eq_false q2]; simp
    · rw [if_neg q1, ← hJ, decide_eq_false q1]; rfl
  | [x, y], hJ =>
    simp only [judgeB] at hJ
    simp [sem_judge_bound, startG, List.replicate, wLc, pqD, hw]
    by_cases q1 : w = "clash"
    · rw [if_pos q1] at hJ ⊢
      refine use_is_binding h1 h2 ?_
      cases q2 : isBd s E M 1 x with
      | false => rw [q2] at hJ; simp [← hJ]
      | true => rw [q2] at hJ; simp; exact ⟨s, E, M, 0, y, h1, h2, rfl, by simp [← hJ]⟩
    · rw [if_neg q1] at hJ ⊢
      by_cases q3 : w = "bound"
      · rw [if_pos q3] at hJ
        refine .inl ⟨q3, use_is_binding h1 h2 ?_⟩
        cases q2 : isBd s E M x y with
        | false => rw [q2] at hJ; simp [← hJ]
        | true => rw [q2] at hJ; simp; exact use_binding h1 h2 (by simp [← hJ])
      · rw [if_neg q3] at hJ
        exact .inr ⟨q3, by rw [← hJ]⟩
  | x :: y :: z :: r, hJ =>
    simp [judgeB] at hJ
    subst hJ
    simp [sem_judge_bound, startG, List.replicate, wLc, pqD, hw]
    rw [if_neg (by omega)]; omega
theorem isBd_eq {s : List Int} {E : List Cs} {M : List Nat} {a x : Int} : isBd s E M a x = decide (∃ k ∈ bnd s E M a, (k : Int) = x) := by
  rw [Bool.eq_iff_iff, decide_eq_true_eq]
  unfold isBd
  simp only [Bool.and_eq_true, decide_eq_true_eq]
  constructor
  · rintro ⟨⟨h1, h2⟩, h3, h4⟩
    exact ⟨x.toNat, mem_bnd.mpr ⟨by omega, h3, h4⟩, by omega⟩
  · rintro ⟨k, hk, rfl⟩
    obtain ⟨h1, h2, h3⟩ := mem_bnd.mp hk
    exact ⟨⟨by omega, by omega⟩, by simpa using h2, by simpa using h3⟩
theorem any_eq {s : List Int} {E : List Cs} {M : List Nat} (hc : ∀ c ∈ E, c.2 = 0 ∨ c.2 = 1) : (!anyB (E.map fun c => bindsB s c M)) = decide ((bnd s E M 1).length + (bnd s E M 0).length = 0) := by
  rw [anyB_map, Bool.eq_iff_iff]
  simp only [Bool.not_eq_true', decide_eq_true_eq, List.any_eq_false]
  constructor
  · intro h
    have e : ∀ a, bnd s E M a = [] := fun a => by
      rw [List.eq_nil_iff_forall_not_mem]
      intro k hk
      obtain ⟨h1, h2, h3⟩ := mem_bnd.mp hk
      exact h _ (ge_in h1) h3
    simp [e]
  · intro h c hc' hb
    obtain ⟨k, hk, rfl⟩ := List.getElem_of_mem hc'
    have e : ge E k = E[k] := by simp [ge, List.getD, List.getElem?_eq_getElem hk]
    rw [← e] at hb
    rcases hc _ hc' with h0 | h0
    · rw [← e] at h0
      have := List.length_pos_of_mem (mem_bnd.mpr ⟨hk, h0, hb⟩); omega
    · rw [← e] at h0
      have := List.length_pos_of_mem (mem_bnd.mpr ⟨hk, h0, hb⟩); omega
theorem shp_nat (n k : Nat) : shp n (natD k) = true := by simp [natD]
theorem deq_nat (k : Nat) (x : Int) : deq (natD k) (.int x) = decide ((k : Int) = x) := by simp [natD]
def hyp (s : List Int) (E : List Cs) : Prop := (∀ x ∈ s, x = 0 ∨ x = 1) ∧ (∀ c ∈ E, c.2 = 0 ∨ c.2 = 1) ∧ vals s E
def sp_law_due : List D → D → Prop := fun ds d => ∃ (s : List Int) (E : List Cs) (M : List Nat), hyp s E ∧ val s M ∧ ds = [.lst (s.map .int), .lst (E.map cD), tupM M] ∧ d = pqD (dueB s E M)
theorem sp_law_due_len : ∀ (ds : List D) (d : D), sp_law_due ds d → ds.length = 3 := by rintro _ _ ⟨_, _, _, _, _, rfl, _⟩; rfl
def sp_law_accepts : List D → D → Prop := fun ds d => ∃ (s : List Int) (E : List Cs) (M : List Nat) (p : Pq), hyp s E ∧ val s M ∧ PyData.strOk p.1 = true ∧ ds = [.lst (s.map .int), .lst (E.map cD), tupM M, pqD p] ∧ d = .bl (judgeB s E M p)
theorem sp_law_accepts_len : ∀ (ds : List D) (d : D), sp_law_accepts ds d → ds.length = 4 := by rintro _ _ ⟨_, _, _, _, _, _, _, rfl, _⟩; rfl
def sem_law_due : WS :=
  (sSeq (sSet 3 (wFn sp_law_binding (wCons (wVar 0) (wCons (wVar 1) (wCons (wVar 2) (wCons (wC (.int 1)) wNil))))))
  (sSeq (sSet 4 (wFn sp_law_binding (wCons (wVar 0) (wCons (wVar 1) (wCons (wVar 2) (wCons (wC (.int 0)) wNil))))))
  (sSeq (sIf (wAnd (wTest (w2 wGt (wCall wLen (wCons (wVar 3) wNil)) (wC (.int 0)))) (wTest (w2 wGt (wCall wLen (wCons (wVar 4) wNil)) (wC (.int 0)))))
  (sRet (wTup (wCons (wC (.str "clash")) (wCons (w2 wIx (wVar 3) (wC (.int 0))) (wCons (w2 wIx (wVar 4) (wC (.int 0))) wNil)))))
  sNext)
  (sSeq (sIf (wTest (w2 wGt (wCall wLen (wCons (wVar 3) wNil)) (wC (.int 0))))
  (sRet (wTup (wCons (wC (.str "bound")) (wCons (wC (.int 1)) (wCons (w2 wIx (wVar 3) (wC (.int 0))) wNil)))))
  sNext)
  (sSeq (sIf (wTest (w2 wGt (wCall wLen (wCons (wVar 4) wNil)) (wC (.int 0))))
  (sRet (wTup (wCons (wC (.str "bound")) (wCons (wC (.int 0)) (wCons (w2 wIx (wVar 4) (wC (.int 0))) wNil)))))
  sNext)
  (sRet (wTup (wCons (wC (.str "free")) (wCons (wC (.int 0)) wNil)))))))))
def sem_law_accepts : WS :=
  (sSeq (sSet 4 (wFn sp_law_binding (wCons (wVar 0) (wCons (wVar 1) (wCons (wVar 2) (wCons (wC (.int 1)) wNil))))))
  (sSeq (sSet 5 (wFn sp_law_binding (wCons (wVar 0) (wCons (wVar 1) (wCons (wVar 2) (wCons (wC (.int 0)) wNil))))))
  (sSeq (sIf (wTest (w2 wEq (wCall wLen (wCons (wVar 3) wNil)) (wC (.int 2))))
  (sRet (wAndV (w2 wEq (wVar 3) (wTup (wCons (wC (.str "free")) (wCons (wC (.int 0)) wNil)))) (w2 wEq (w2 wAdd (wCall wLen (wCons (wVar 4) wNil)) (wCall wLen (wCons (wVar 5) wNil))) (wC (.int 0)))))
  sNext)
  (sSeq (sIf (wTest (w2 wNe (wCall wLen (wCons (wVar 3) wNil)) (wC (.int 3))))
  (sRet (wC (.bl false)))
  sNext)
  (sSeq (sIf (wTest (w2 wEq (w2 wIx (wVar 3) (wC (.int 0))) (wC (.str "clash"))))
  (sRet (wAndV (w2 wIn (w2 wIx (wVar 3) (wC (.int 1))) (wVar 4)) (w2 wIn (w2 wIx (wVar 3) (wC (.int 2))) (wVar 5))))
  sNext)
  (sSeq (sIf (wOr (wTest (w2 wNe (w2 wIx (wVar 3) (wC (.int 0))) (wC (.str "bound")))) (wAnd (wTest (w2 wGt (wCall wLen (wCons (wVar 4) wNil)) (wC (.int 0)))) (wTest (w2 wGt (wCall wLen (wCons (wVar 5) wNil)) (wC (.int 0))))))
  (sRet (wC (.bl false)))
  sNext)
  (sRet (wOrV (wAndV (w2 wEq (w2 wIx (wVar 3) (wC (.int 1))) (wC (.int 1))) (w2 wIn (w2 wIx (wVar 3) (wC (.int 2))) (wVar 4))) (wAndV (w2 wEq (w2 wIx (wVar 3) (wC (.int 1))) (wC (.int 0))) (w2 wIn (w2 wIx (wVar 3) (wC (.int 2))) (wVar 5)))))))))))
theorem hf_law_due : ∀ (ds : List D) (d : D), sp_law_due ds d → sem_law_due (startG 5 ds) { nx := fun _ => false = false ∧ d = .non, rt := fun z => z = d } := by
  rintro _ _ ⟨s, E, M, ⟨h0, h1, h2⟩, h3, rfl, rfl⟩
  simp [sem_law_due, startG, List.replicate]
  refine use_law_binding h0 h1 h2 h3 (use_law_binding h0 h1 h2 h3 ?_)
  unfold dueB
  cases q1 : bnd s E M 1 <;> cases q0 : bnd s E M 0 <;> simp [pqD, natD]
  all_goals (try omega)
  all_goals trace_state
theorem hf_law_accepts : ∀ (ds : List D) (d : D), sp_law_accepts ds d → sem_law_accepts (startG 6 ds) { nx := fun _ => false = false ∧ d = .non, rt := fun z => z = d } := by
  rintro _ _ ⟨s, E, M, ⟨w, xs⟩, ⟨h0, h1, h2⟩, h3, hw, rfl, rfl⟩
  have hE := h2.1
  simp at hw
  unfold sem_law_accepts
  apply sq
  · intro N hN; simp [startG, List.replicate]; exact use_law_binding h0 h1 h2 h3 hN
  apply sq
  · intro N hN; simp; exact use_law_binding h0 h1 h2 h3 hN
  generalize hJ : judgeB s E M (w, xs) = J
  match xs, hJ with
  | [], hJ => simp [judgeB] at hJ; subst hJ; simp [pqD]
  | [x], hJ =>
    simp only [judgeB] at hJ
    rw [any_eq h1] at hJ
    simp [pqD, hw]
    by_cases q : w = "free" ∧ x = 0
    · rw [if_pos q, ← hJ, decide_eq_true q.1, decide_eq_true q.2, Bool.true_and, Bool.true_and]
      congr 1; apply propext; omega
    · rw [if_neg q, ← hJ]
      by_cases q1 : w = "free"
      · have q2 : ¬ x = 0 := fun e => q ⟨q1, e⟩
        rw [decide_eq_false q2]; simp
      · rw [decide_eq_false q1]; rfl
  | [x, y], hJ =>
    simp only [judgeB, isBd_eq] at hJ
    have aN : (bnd s E M 0).any ((fun z => deq z (D.int y)) ∘ natD) = decide (∃ k ∈ bnd s E M 0, (k : Int) = y) := by
      rw [Bool.eq_iff_iff]; simp [natD]
    simp [pqD, hw, shp_nat, deq_nat, aN]
    by_cases q1 : w = "clash"
    · rw [if_pos q1] at hJ ⊢
      by_cases a : ∃ k ∈ bnd s E M 1, (k : Int) = x
      · rw [decide_eq_true a] at hJ; exact .inr ⟨a, by simpa using hJ⟩
      · rw [decide_eq_false a] at hJ; exact .inl ⟨fun k hk e => a ⟨k, hk, e⟩, by simpa using hJ.symm⟩
    · rw [if_neg q1] at hJ ⊢
      by_cases q3 : w = "bound"
      · rw [if_pos q3] at hJ
        refine .inl ⟨q3, ?_⟩
        by_cases x1 : x = 1
        · subst x1
          rw [show (1 : Int) - 1 = 0 by omega] at hJ
          simp only [if_true, if_false, show ¬ (1 : Int) = 0 by omega] at hJ ⊢
          generalize bnd s E M 1 = Y at *
          generalize bnd s E M 0 = N at *
          cases Y with
          | nil => left; simp at hJ ⊢; exact hJ
          | cons a Y =>
            refine .inr ⟨by simp, ?_⟩
            cases N with
            | nil =>
              refine .inl ⟨rfl, ?_⟩
              by_cases b : ∃ k ∈ a :: Y, (k : Int) = y
              · rw [decide_eq_true b] at hJ; exact .inr ⟨b, by simpa using hJ.symm⟩
              · rw [decide_eq_false b] at hJ; exact .inl ⟨fun k hk e => b ⟨k, hk, e⟩, by simpa using hJ.symm⟩
            | cons b N => exact .inr ⟨by simp, by rw [← hJ]; simp⟩
        · by_cases x0 : x = 0
          · subst x0
            rw [show (1 : Int) - 0 = 1 by omega] at hJ
            simp only [if_true, if_false, show ¬ (0 : Int) = 1 by omega] at hJ ⊢
            generalize bnd s E M 1 = Y at *
            generalize bnd s E M 0 = N at *
            cases Y with
            | nil => exact .inl ⟨rfl, by rw [← hJ]; simp⟩
            | cons a Y =>
              refine .inr ⟨by simp, ?_⟩
              cases N with
              | nil => exact .inl ⟨rfl, by rw [← hJ]; simp⟩
              | cons b N => exact .inr ⟨by simp, by rw [← hJ]; simp⟩
          · have e : bnd s E M x = [] := by
              rw [List.eq_nil_iff_forall_not_mem]
              intro k hk
              obtain ⟨g1, g2, _⟩ := mem_bnd.mp hk
              rcases h1 _ (ge_in g1) with g | g <;> omega
            rw [e] at hJ
            have hJ : J = false := by rw [← hJ]; simp
            simp only [if_neg x1, if_neg x0]
            generalize bnd s E M 1 = Y at *
            generalize bnd s E M 0 = N at *
            cases Y with
            | nil => exact .inl ⟨rfl, hJ⟩
            | cons a Y =>
              refine .inr ⟨by simp, ?_⟩
              cases N with
              | nil => exact .inl ⟨rfl, hJ⟩
              | cons b N => exact .inr ⟨by simp, hJ⟩
      · rw [if_neg q3] at hJ
        exact .inr ⟨q3, by rw [← hJ]⟩
  | x :: y :: z :: r, hJ =>
    simp [judgeB] at hJ
    subst hJ
    simp [pqD, hw]
    intro _
    exact .inr (by omega)
end DL

set_option Elab.async false
set_option linter.all false
set_option maxRecDepth 100000
set_option maxHeartbeats 4000000
namespace DL
open PySem PySem.Spec PyProof.Rows L2
def pw (m : Nat) : Int := 2 ^ m
theorem pw_bd {m : Nat} (h : m < 12) : 0 < pw m ∧ pw m ≤ 2048 := by
  have : m = 0 ∨ m = 1 ∨ m = 2 ∨ m = 3 ∨ m = 4 ∨ m = 5 ∨ m = 6 ∨ m = 7 ∨ m = 8 ∨ m = 9 ∨ m = 10 ∨ m = 11 := by omega
  rcases this with rfl | rfl | rfl | rfl | rfl | rfl | rfl | rfl | rfl | rfl | rfl | rfl <;> decide
theorem pw_at {m : Nat} (h : m < 12) : atI [D.int 1, .int 2, .int 4, .int 8, .int 16, .int 32, .int 64, .int 128, .int 256, .int 512, .int 1024, .int 2048] (m : Int) = some (.int (pw m)) := by
  refine atI_nat ?_
  have : m = 0 ∨ m = 1 ∨ m = 2 ∨ m = 3 ∨ m = 4 ∨ m = 5 ∨ m = 6 ∨ m = 7 ∨ m = 8 ∨ m = 9 ∨ m = 10 ∨ m = 11 := by omega
  rcases this with rfl | rfl | rfl | rfl | rfl | rfl | rfl | rfl | rfl | rfl | rfl | rfl <;> rfl
def bitB (x : Int) (m : Nat) : Bool := decide (x / pw m % 2 = 1)
def tupL (x : Int) (n : Nat) : List Nat := (List.range n).filter (bitB x)
theorem tupL_val {s : List Int} (x : Int) (h : s.length ≤ 12) : val s (tupL x s.length) := by
  refine ⟨?_, fun k hk => List.mem_range.mp (List.mem_filter.mp hk).1⟩
  have := List.length_filter_le (bitB x) (List.range s.length)
  simp [tupL] at this ⊢; omega
theorem rfilter {p : Nat → Bool} (i : Nat) : (List.range (i + 1)).filter p = (List.range i).filter p ++ if p i = true then [i] else [] := by
  rw [List.range_succ, List.filter_append]; congr 1; by_cases hb : p i = true <;> simp [hb]
theorem rfilter_len {p : Nat → Bool} (i : Nat) : ((List.range i).filter p).length ≤ i := by
  have := List.length_filter_le p (List.range i); simpa using this
def sp_law_tuple : List D → D → Prop := fun ds d => ∃ (x : Int) (n : Nat), n ≤ 12 ∧ ds = [.int x, .int n] ∧ d = tupM (tupL x n)
theorem sp_law_tuple_len : ∀ (ds : List D) (d : D), sp_law_tuple ds d → ds.length = 2 := by rintro _ _ ⟨_, _, _, rfl, _⟩; rfl
def ansE (s : List Int) (M : List Nat) : Int := if 2 * (spk s M 1).length > M.length then 1 else 0
def mkE (ns s : List Int) (k : Nat) : List Nat := tupL (gd (drawsL ns 2 30) k) s.length
def csE (ns s : List Int) (d1 : Int) (k : Nat) : Cs := (mkE ns s k, if d1 % 2 = 1 ∧ k % 8 = 7 then 1 - ansE s (mkE ns s k) else ansE s (mkE ns s k))
def earE (ns s : List Int) (d0 d1 : Int) : List Cs := (List.range (8 + d0 % 23).toNat).map (csE ns s d1)
def sp_law_earlier : List D → D → Prop := fun ds d => ∃ (ns s : List Int) (d0 d1 : Int), s.length ≤ 12 ∧ (∀ x ∈ s, x = 0 ∨ x = 1) ∧ ds = [.scr ns, .lst (s.map .int), .lst [.int d0, .int d1]] ∧ d = .lst ((earE ns s d0 d1).map cD)
theorem sp_law_earlier_len : ∀ (ds : List D) (d : D), sp_law_earlier ds d → ds.length = 3 := by rintro _ _ ⟨_, _, _, _, _, _, rfl, _⟩; rfl
def sem_law_tuple_b1 : WS :=
  (sIf (wTest (w2 wEq (w2 wMod (wCall wInt (wCons (w2 wDiv (wVar 0) (w2 wIx (wLst (wCons (wC (.int 1)) (wCons (wC (.int 2)) (wCons (wC (.int 4)) (wCons (wC (.int 8)) (wCons (wC (.int 16)) (wCons (wC (.int 32)) (wCons (wC (.int 64)) (wCons (wC (.int 128)) (wCons (wC (.int 256)) (wCons (wC (.int 512)) (wCons (wC (.int 1024)) (wCons (wC (.int 2048)) wNil))))))))))))) (wVar 3))) wNil)) (wC (.int 2))) (wC (.int 1))))
  (sApp 2 (wVar 3))
  sNext)
def sem_law_tuple : WS :=
  (sSeq (sOwn 2 (wLst wNil))
  (sSeq (sFor (wItR1 (wCons (wVar 1) wNil)) (gSet 3)
  sem_law_tuple_b1)
  (sFrz 2 (sRet (wCall wTuple (wCons (wVar 2) wNil))))))
def sem_law_earlier_b1 : WS :=
  (sSeq (sSet 6 (wFn sp_law_tuple (wCons (w2 wIx (wVar 3) (wVar 5)) (wCons (wCall wLen (wCons (wVar 1) wNil)) wNil))))
  (sSeq (sSet 7 (wCall wLen (wCons (wLc (wItS (wVar 6)) (gSet 9) (wTest (w2 wEq (w2 wIx (wVar 1) (wVar 9)) (wC (.int 1)))) (wVar 9) [9]) wNil)))
  (sSeq (sSet 8 (wCall wInt (wCons (w2 wGt (w2 wMul (wC (.int 2)) (wVar 7)) (wCall wLen (wCons (wVar 6) wNil))) wNil)))
  (sSeq (sIf (wAnd (wTest (w2 wEq (w2 wMod (w2 wIx (wVar 2) (wC (.int 1))) (wC (.int 2))) (wC (.int 1)))) (wTest (w2 wEq (w2 wMod (wVar 5) (wC (.int 8))) (wC (.int 7)))))
  (sSet 8 (w2 wSub (wC (.int 1)) (wVar 8)))
  sNext)
  (sApp 4 (wTup (wCons (wVar 6) (wCons (wVar 8) wNil))))))))
def sem_law_earlier : WS :=
  (sSeq (sSet 3 (wFn sp_law_draws (wCons (wVar 0) (wCons (wC (.int 2)) (wCons (wC (.int 30)) wNil)))))
  (sSeq (sOwn 4 (wLst wNil))
  (sSeq (sFor (wItR1 (wCons (w2 wAdd (wC (.int 8)) (w2 wMod (w2 wIx (wVar 2) (wC (.int 0))) (wC (.int 23)))) wNil)) (gSet 5)
  sem_law_earlier_b1)
  (sRetV 4))))
theorem hf_law_tuple : ∀ (ds : List D) (d : D), sp_law_tuple ds d → sem_law_tuple (startG 4 ds) { nx := fun _ => false = false ∧ d = .non, rt := fun z => z = d } := by
  rintro _ _ ⟨x, n, hn, rfl, rfl⟩
  simp [sem_law_tuple, startG, List.replicate]
  refine ⟨by omega, for_rng 0 n (fun i Γ => ∃ x3 : Option Sl, Γ = [some (.val (.int x)), some (.val (.int n)), some (.own (.lst (((List.range i).filter (bitB x)).map natD))), x3]) ⟨none, by simp⟩ ?_ ?_⟩
  · rintro i Γ N hi ⟨x3, rfl⟩ hN
    obtain ⟨p1, p2⟩ := pw_bd (show i < 12 by omega)
    have p3 := pw_at (show i < 12 by omega)
    have hl := rfilter_len (p := bitB x) i
    simp only [sem_law_tuple_b1]
    simp [p3, divOk, p1]
    refine ⟨by omega, ?_⟩
    by_cases q : x / pw i % 2 = 1
    · rw [if_pos q]
      refine ⟨size_lt (by omega), hN _ ⟨some (.val (.int i)), ?_⟩⟩
      have : bitB x i = true := by simp [bitB, q]
      simp [rfilter, this, natD]
    · rw [if_neg q]
      refine hN _ ⟨some (.val (.int i)), ?_⟩
      have : bitB x i = false := by simp [bitB, q]
      simp [rfilter, this]
  · rintro Γ ⟨x3, rfl⟩
    simp [tupM, tupL]
theorem hf_law_earlier : ∀ (ds : List D) (d : D), sp_law_earlier ds d → sem_law_earlier (startG 10 ds) { nx := fun _ => false = false ∧ d = .non, rt := fun z => z = d } := by
  rintro _ _ ⟨ns, s, d0, d1, hs, hs2, rfl, rfl⟩
  have l2 := drawsL_len ns 2 30
  unfold sem_law_earlier
  simp only [startG, List.map, List.replicate, List.length, List.append, List.cons_append, List.nil_append, Nat.reduceSub, Nat.reduceAdd]
  apply sq
  · intro N hN
    simp; exact ⟨_, ⟨ns, 2, 30, by omega, rfl, rfl⟩, hN⟩
  apply sq
  · intro N hN; simp; exact hN
  obtain ⟨n, hn, hn1⟩ : ∃ n : Nat, 8 + d0 % 23 = (n : Int) ∧ n ≤ 30 := ⟨(8 + d0 % 23).toNat, by omega, by omega⟩
  refine sqP (fun Γ => ∃ x5 x6 x7 x8 x9 : Option Sl, Γ = [some (.val (.scr ns)), some (.val (.lst (s.map .int))), some (.val (.lst [.int d0, .int d1])), some (.val (.lst ((drawsL ns 2 30).map .int))), some (.own (.lst ((earE ns s d0 d1).map cD))), x5, x6, x7, x8, x9]) ?_ ?_
  · intro N hN
    simp [hn]
    refine ⟨by omega, for_rng 0 n (fun i Γ => ∃ x5 x6 x7 x8 x9 : Option Sl, Γ = [some (.val (.scr ns)), some (.val (.lst (s.map .int))), some (.val (.lst [.int d0, .int d1])), some (.val (.lst ((drawsL ns 2 30).map .int))), some (.own (.lst (((List.range i).map (csE ns s d1)).map cD))), x5, x6, x7, x8, x9]) ⟨none, none, none, none, none, by simp⟩ ?_ ?_⟩
    · rintro i Γ N hi ⟨x5, x6, x7, x8, x9, rfl⟩ hN
      have c2 := atI_gd (l := drawsL ns 2 30) (i := i) (by omega)
      have hv := tupL_val (gd (drawsL ns 2 30) i) hs
      have hM1 := hv.1
      unfold sem_law_earlier_b1
      simp only [gSet, List.set, Int.zero_add]
      apply sq
      · intro N hN
        simp [c2, -List.map_map]
        exact ⟨_, ⟨gd (drawsL ns 2 30) i, s.length, hs, rfl, rfl⟩, hN⟩
      apply sq
      · intro N hN
        simp [wLc, -List.map_map]
        show lcGo _ _ _ _ ((tupL (gd (drawsL ns 2 30) i) s.length).map natD) [] _
        refine lc_filter natD (fun k => decide (gd s k = 1)) natD _ (fun k hk Ψ hΨ => ?_) (size_le (by omega)) ?_
        · have a := atI_gd (hv.2 k hk)
          simp [elW, natD, a]
          by_cases q : gd s k = 1
          · rw [if_pos q]; simp [q, natD] at hΨ; exact hΨ
          · rw [if_neg q]; simp [q] at hΨ; exact hΨ
        · simp [-List.map_map]; exact hN
      show sSeq _ _ [some (.val (.scr ns)), some (.val (.lst (s.map .int))), some (.val (.lst [.int d0, .int d1])), some (.val (.lst ((drawsL ns 2 30).map .int))), some (.own (.lst (((List.range i).map (csE ns s d1)).map cD))), some (.val (.int i)), some (.val (tupM (mkE ns s i))), some (.val (.int (spk s (mkE ns s i) 1).length)), x8, x9] _
      change (mkE ns s i).length ≤ 1000 at hM1
      change val s (mkE ns s i) at hv
      have hcs : csE ns s d1 i = (mkE ns s i, if d1 % 2 = 1 ∧ i % 8 = 7 then 1 - ansE s (mkE ns s i) else ansE s (mkE ns s i)) := rfl
      generalize mkE ns s i = M at *
      have hl := spk_len (s := s) (M := M) (a := 1)
      apply sq
      · intro N hN
        simp [mulOk, CMul, tupM, -List.map_map]
        have e : (if (M.length : Int) < 2 * ((spk s M 1).length : Int) then (1 : Int) else 0) = ansE s M := by unfold ansE; split <;> split <;> omega
        rw [e]
        exact hN
      generalize ansE s M = a at *
      refine sq (Γ' := [some (.val (.scr ns)), some (.val (.lst (s.map .int))), some (.val (.lst [.int d0, .int d1])), some (.val (.lst ((drawsL ns 2 30).map .int))), some (.own (.lst (((List.range i).map (csE ns s d1)).map cD))), some (.val (.int i)), some (.val (tupM M)), some (.val (.int (spk s M 1).length)), some (.val (.int (if d1 % 2 = 1 ∧ i % 8 = 7 then 1 - a else a))), x9]) ?_ ?_
      · intro N hN
        simp
        simp only [List.map_map] at hN
        by_cases q1 : d1 % 2 = 1
        · rw [if_pos q1]
          by_cases q2 : i % 8 = 7
          · rw [if_pos (by omega)]; rw [if_pos ⟨q1, q2⟩] at hN; exact hN
          · rw [if_neg (by omega)]; rw [if_neg (fun h => q2 h.2)] at hN; exact hN
        · rw [if_neg q1]; rw [if_neg (fun h => q1 h.1)] at hN; exact hN
      simp
      refine ⟨size_lt (by omega), hN _ ⟨some (.val (.int i)), some (.val (tupM M)), some (.val (.int (spk s M 1).length)), some (.val (.int (if d1 % 2 = 1 ∧ i % 8 = 7 then 1 - a else a))), x9, ?_⟩⟩
      simp [List.range_succ, hcs, cD]
    · rintro Γ ⟨x5, x6, x7, x8, x9, rfl⟩
      refine hN _ ⟨x5, x6, x7, x8, x9, ?_⟩
      simp [earE, hn]
  rintro Γ ⟨x5, x6, x7, x8, x9, rfl⟩
  simp
def stP (s : List Int) (c : Cs) (x : Int) (m : Nat) : Bool := (decide (m ∈ c.1) && (decide (gd s m = c.2) || bitB x m)) || (!decide (m ∈ c.1) && (decide (gd s m = c.2) && bitB x m))
def stL (s : List Int) (c : Cs) (x : Int) : List Nat := (List.range s.length).filter (stP s c x)
theorem stL_val {s : List Int} (c : Cs) (x : Int) (h : s.length ≤ 12) : val s (stL s c x) := by
  refine ⟨?_, fun k hk => List.mem_range.mp (List.mem_filter.mp hk).1⟩
  have := rfilter_len (p := stP s c x) s.length
  simp [stL] at this ⊢; omega
theorem stL_binds {s : List Int} {c : Cs} {x : Int} (hs : ∀ x ∈ s, x = 0 ∨ x = 1) (hc : c.2 = 0 ∨ c.2 = 1) (h : val s c.1) : bindsB s c (stL s c x) = true := by
  unfold bindsB
  rw [Bool.and_eq_true, inB_iff, inB_iff]
  constructor
  · intro m hm
    simp only [spk, List.mem_filter, decide_eq_true_eq] at hm
    refine List.mem_filter.mpr ⟨List.mem_range.mpr (h.2 m hm.1), ?_⟩
    simp [stP, hm.1, hm.2]
  · intro m hm
    simp only [spk, stL, List.mem_filter, List.mem_range, decide_eq_true_eq] at hm
    obtain ⟨⟨h1, h2⟩, h3⟩ := hm
    by_cases q : m ∈ c.1
    · exact q
    · have : ¬ gd s m = c.2 := by omega
      simp [stP, q, this] at h2
def sp_law_stronger : List D → D → Prop := fun ds d => ∃ (s : List Int) (c : Cs) (x : Int), s.length ≤ 12 ∧ ds = [.lst (s.map .int), cD c, .int x] ∧ d = tupM (stL s c x)
theorem sp_law_stronger_len : ∀ (ds : List D) (d : D), sp_law_stronger ds d → ds.length = 3 := by rintro _ _ ⟨_, _, _, _, rfl, _⟩; rfl
def sem_law_stronger_b1 : WS :=
  (sSeq (sSet 5 (w2 wEq (w2 wMod (wCall wInt (wCons (w2 wDiv (wVar 2) (w2 wIx (wLst (wCons (wC (.int 1)) (wCons (wC (.int 2)) (wCons (wC (.int 4)) (wCons (wC (.int 8)) (wCons (wC (.int 16)) (wCons (wC (.int 32)) (wCons (wC (.int 64)) (wCons (wC (.int 128)) (wCons (wC (.int 256)) (wCons (wC (.int 512)) (wCons (wC (.int 1024)) (wCons (wC (.int 2048)) wNil))))))))))))) (wVar 4))) wNil)) (wC (.int 2))) (wC (.int 1))))
  (sIf (wOr (wAnd (wTest (w2 wIn (wVar 4) (w2 wIx (wVar 1) (wC (.int 0))))) (wOr (wTest (w2 wEq (w2 wIx (wVar 0) (wVar 4)) (w2 wIx (wVar 1) (wC (.int 1))))) (wTru (wVar 5)))) (wAnd (wTest (w2 wNotIn (wVar 4) (w2 wIx (wVar 1) (wC (.int 0))))) (wAnd (wTest (w2 wEq (w2 wIx (wVar 0) (wVar 4)) (w2 wIx (wVar 1) (wC (.int 1))))) (wTru (wVar 5)))))
  (sApp 3 (wVar 4))
  sNext))
def sem_law_stronger : WS :=
  (sSeq (sOwn 3 (wLst wNil))
  (sSeq (sFor (wItR1 (wCons (wCall wLen (wCons (wVar 0) wNil)) wNil)) (gSet 4)
  sem_law_stronger_b1)
  (sFrz 3 (sRet (wCall wTuple (wCons (wVar 3) wNil))))))
theorem hf_law_stronger : ∀ (ds : List D) (d : D), sp_law_stronger ds d → sem_law_stronger (startG 6 ds) { nx := fun _ => false = false ∧ d = .non, rt := fun z => z = d } := by
  rintro _ _ ⟨s, c, x, hs, rfl, rfl⟩
  simp [sem_law_stronger, startG, List.replicate]
  refine ⟨by omega, for_rng 0 s.length (fun i Γ => ∃ x4 x5 : Option Sl, Γ = [some (.val (.lst (s.map .int))), some (.val (cD c)), some (.val (.int x)), some (.own (.lst (((List.range i).filter (stP s c x)).map natD))), x4, x5]) ⟨none, none, by simp⟩ ?_ ?_⟩
  · rintro i Γ N hi ⟨x4, x5, rfl⟩ hN
    obtain ⟨p1, p2⟩ := pw_bd (show i < 12 by omega)
    have p3 := pw_at (show i < 12 by omega)
    have hl := rfilter_len (p := stP s c x) i
    have a := atI_gd hi
    have step : ∀ b : Bool, b = stP s c x i → N [some (.val (.lst (s.map .int))), some (.val (cD c)), some (.val (.int x)), some (.own (.lst (if b = true then ((List.range i).filter (stP s c x)).map natD ++ [.int i] else ((List.range i).filter (stP s c x)).map natD))), some (.val (.int i)), some (.val (.bl (bitB x i)))] := by
      intro b hb
      refine hN _ ⟨some (.val (.int i)), some (.val (.bl (bitB x i))), ?_⟩
      rw [rfilter, ← hb]
      cases b <;> simp [natD]
    unfold sem_law_stronger_b1
    simp only [gSet, List.set, Int.zero_add]
    apply sq
    · intro N hN
      simp [p3, divOk, p1]
      refine ⟨by omega, ?_⟩
      exact hN
    change ∀ b : Bool, _ at step
    simp [cD, tupM, flatD, a, natD]
    have hq : decide (x / pw i % 2 = 1) = bitB x i := rfl
    simp only [hq]
    have hsz : ((List.range i).filter (stP s c x)).length < sizeLine := size_lt (by omega)
    have eT := fun h => step true h
    have eF := fun h => step false h
    simp [cD, tupM] at eT eF
    by_cases q : i ∈ c.1
    · refine .inr ⟨⟨i, q, rfl⟩, ?_⟩
      by_cases g : gd s i = c.2
      · rw [if_pos g]; exact ⟨hsz, eT (by simp [stP, q, g])⟩
      · rw [if_neg g]
        by_cases b : x / pw i % 2 = 1
        · rw [if_pos b]; exact ⟨hsz, eT (by simp [stP, bitB, q, g, b])⟩
        · rw [if_neg b]; exact .inl ⟨⟨i, q, rfl⟩, eF (by simp [stP, bitB, q, g, b])⟩
    · have nq : ∀ x : Nat, x ∈ c.1 → ¬ (x : Int) = (i : Int) := fun x hx e => q (by rwa [show x = i by omega] at hx)
      refine .inl ⟨nq, .inr ⟨nq, ?_⟩⟩
      by_cases g : gd s i = c.2
      · rw [if_pos g]
        by_cases b : x / pw i % 2 = 1
        · rw [if_pos b]; exact ⟨hsz, eT (by simp [stP, bitB, q, g, b])⟩
        · rw [if_neg b]; exact eF (by simp [stP, bitB, q, g, b])
      · rw [if_neg g]; exact eF (by simp [stP, bitB, q, g])
  · rintro Γ ⟨x4, x5, rfl⟩
    simp [tupM, stL]
end DL

set_option Elab.async false
set_option linter.all false
set_option maxRecDepth 100000
set_option maxHeartbeats 4000000
namespace DL
open PySem PySem.Spec PyProof.Rows L2
/-! ### plain laws -/
theorem mem_clL {s : List Int} {E : List Cs} {p : Nat × Nat} : p ∈ clL s E ↔ p.1 < p.2 ∧ p.2 < E.length ∧ clsh s (ge E p.1) (ge E p.2) = true := by
  unfold clL clT
  simp only [List.mem_flatMap, List.mem_map, List.mem_filter, List.mem_range]
  constructor
  · rintro ⟨k, hk, t, ⟨h1, h2⟩, rfl⟩
    exact ⟨by simp; omega, by simp; omega, h2⟩
  · rintro ⟨h1, h2, h3⟩
    refine ⟨p.1, by omega, p.2 - (p.1 + 1), ⟨by omega, ?_⟩, ?_⟩
    · rw [show p.1 + 1 + (p.2 - (p.1 + 1)) = p.2 by omega]; exact h3
    · rw [show p.1 + 1 + (p.2 - (p.1 + 1)) = p.2 by omega]
/-- no two earlier cases clash: no marks are bound both ways -/
theorem quiet_law {s : List Int} {E : List Cs} {M : List Nat} (hs : ∀ x ∈ s, x = 0 ∨ x = 1) (hE : ∀ c ∈ E, val s c.1) (h : clL s E = []) : bnd s E M 1 = [] ∨ bnd s E M 0 = [] := by
  cases q1 : bnd s E M 1 with
  | nil => exact .inl rfl
  | cons i r =>
    cases q0 : bnd s E M 0 with
    | nil => exact .inr rfl
    | cons j r' =>
      obtain ⟨i1, i2, i3⟩ := mem_bnd.mp (show i ∈ bnd s E M 1 by rw [q1]; simp)
      obtain ⟨j1, j2, j3⟩ := mem_bnd.mp (show j ∈ bnd s E M 0 by rw [q0]; simp)
      simp only [bindsB, Bool.and_eq_true, inB_iff, spk, List.mem_filter, decide_eq_true_eq] at i3 j3
      rw [i2] at i3
      rw [j2] at j3
      have ij : clsh s (ge E i) (ge E j) = true := by
        simp only [clsh, bindsB, Bool.and_eq_true, inB_iff, spk, List.mem_filter, decide_eq_true_eq, i2, j2]
        exact ⟨by omega, fun m hm => j3.2 m ⟨i3.1 m hm, by omega⟩, fun m hm => i3.2 m ⟨j3.1 m ⟨hm.1, by omega⟩, by omega⟩⟩
      have ji : clsh s (ge E j) (ge E i) = true := by
        simp only [clsh, bindsB, Bool.and_eq_true, inB_iff, spk, List.mem_filter, decide_eq_true_eq, i2, j2]
        exact ⟨by omega, fun m hm => i3.2 m ⟨j3.1 m hm, by omega⟩, fun m hm => j3.2 m ⟨i3.1 m ⟨hm.1, by omega⟩, by omega⟩⟩
      rcases Nat.lt_trichotomy i j with l | l | l
      · have : (i, j) ∈ clL s E := mem_clL.mpr ⟨l, j1, ij⟩
        rw [h] at this; cases this
      · subst l; omega
      · have : (j, i) ∈ clL s E := mem_clL.mpr ⟨l, i1, ji⟩
        rw [h] at this; cases this
/-- counting: a part is not longer -/
theorem sub_len : ∀ {A B : List Nat}, A.Nodup → (∀ x ∈ A, x ∈ B) → A.length ≤ B.length
  | [], _, _, _ => by simp
  | a :: A, B, n, h => by
    have ha := h a (by simp)
    have n' := List.nodup_cons.mp n
    have := sub_len (A := A) (B := B.erase a) n'.2 fun x hx => (List.mem_erase_of_ne (fun e => n'.1 (by rw [← e]; exact hx))).mpr (h x (by simp [hx]))
    rw [List.length_erase_of_mem ha] at this
    have := List.length_pos_of_mem ha
    simp; omega
theorem spk_split {s : List Int} {M : List Nat} (hs : ∀ x ∈ s, x = 0 ∨ x = 1) (hv : ∀ k ∈ M, k < s.length) : (spk s M 1).length + (spk s M 0).length = M.length := by
  induction M with
  | nil => rfl
  | cons k r ih =>
    have h := ih fun k hk => hv k (by simp [hk])
    rcases hs _ (gd_in (hv k (by simp))) with g | g <;> (simp [spk, g] at h ⊢; omega)
theorem clash_two {s : List Int} {c e : Cs} (hs : ∀ x ∈ s, x = 0 ∨ x = 1) (hc : val s c.1) (he : val s e.1) (nc : c.1.Nodup) (ne : e.1.Nodup) (ac : c.2 = ansE s c.1) (ae : e.2 = ansE s e.1) : clsh s c e = false := by
  cases q : clsh s c e with
  | false => rfl
  | true =>
    simp only [clsh, bindsB, Bool.and_eq_true, inB_iff, decide_eq_true_eq] at q
    obtain ⟨h1, h2, h3⟩ := q
    have sc := spk_split hs hc.2
    have se := spk_split hs he.2
    have g1 : (spk s c.1 c.2).length ≤ (spk s e.1 c.2).length := sub_len (nc.filter _) fun m hm => List.mem_filter.mpr ⟨h2 m hm, (List.mem_filter.mp hm).2⟩
    have g2 : (spk s e.1 (1 - c.2)).length ≤ (spk s c.1 (1 - c.2)).length := sub_len (ne.filter _) fun m hm => List.mem_filter.mpr ⟨h3 m hm, (List.mem_filter.mp hm).2⟩
    unfold ansE at ac ae
    by_cases a1 : 2 * (spk s c.1 1).length > c.1.length
    · rw [if_pos a1] at ac
      rw [ac] at g1 g2 h1
      rw [show (1 : Int) - 1 = 0 by omega] at g2
      by_cases a2 : 2 * (spk s e.1 1).length > e.1.length
      · rw [if_pos a2] at ae; omega
      · omega
    · rw [if_neg a1] at ac
      rw [ac] at g1 g2 h1
      rw [show (1 : Int) - 0 = 1 by omega] at g2
      by_cases a2 : 2 * (spk s e.1 1).length > e.1.length
      · omega
      · rw [if_neg a2] at ae; omega
theorem ear_quiet {ns s : List Int} {d0 d1 : Int} (hs : ∀ x ∈ s, x = 0 ∨ x = 1) (hl : s.length ≤ 12) (h : d1 % 2 = 0) : clL s (earE ns s d0 d1) = [] := by
  rw [List.eq_nil_iff_forall_not_mem]
  intro p hp
  obtain ⟨h1, h2, h3⟩ := mem_clL.mp hp
  have hg : ∀ k, k < (earE ns s d0 d1).length → ge (earE ns s d0 d1) k = (mkE ns s k, ansE s (mkE ns s k)) := fun k hk => by
    unfold ge earE
    have hk' : k < (8 + d0 % 23).toNat := by simpa [earE] using hk
    simp [List.getD, hk', csE, show ¬ d1 % 2 = 1 by omega]
  rw [hg _ (by omega), hg _ h2] at h3
  have nd : ∀ k, (mkE ns s k).Nodup := fun k => List.nodup_range.filter _
  rw [clash_two hs (tupL_val _ hl) (tupL_val _ hl) (nd _) (nd _) rfl rfl] at h3
  cases h3
theorem ear_01 {ns s : List Int} {d0 d1 : Int} : ∀ c ∈ earE ns s d0 d1, c.2 = 0 ∨ c.2 = 1 := by
  intro c hc
  obtain ⟨k, _, rfl⟩ := List.mem_map.mp hc
  have : ansE s (mkE ns s k) = 0 ∨ ansE s (mkE ns s k) = 1 := by unfold ansE; split <;> omega
  simp only [csE]
  split <;> omega
theorem ear_vals {ns s : List Int} {d0 d1 : Int} (hl : s.length ≤ 12) : vals s (earE ns s d0 d1) := by
  refine ⟨by simp [earE]; omega, fun c hc => ?_⟩
  obtain ⟨k, _, rfl⟩ := List.mem_map.mp hc
  exact tupL_val _ hl
theorem clL_last {s : List Int} {E : List Cs} {M : List Nat} {a : Int} (hE : ∀ c ∈ E, c.2 = 0 ∨ c.2 = 1) (ha : a = 0 ∨ a = 1) : (clL s (E ++ [(M, a)])).filter (fun p => decide (p.2 = E.length)) = (bnd s E M (1 - a)).map fun k => (k, E.length) := by
  unfold clL
  rw [List.filter_flatMap]
  have hlen : (E ++ [(M, a)]).length = E.length + 1 := by simp
  have gl : ∀ k, k < E.length → ge (E ++ [(M, a)]) k = ge E k := fun k hk => by unfold ge; simp [List.getD, List.getElem?_append_left hk]
  have gn : ge (E ++ [(M, a)]) E.length = (M, a) := by unfold ge; simp [List.getD]
  rw [hlen, List.range_succ, List.flatMap_append]
  have e1 : [E.length].flatMap (fun k => (clT s (E ++ [(M, a)]) k).filter fun p => decide (p.2 = E.length)) = [] := by simp [clT]
  rw [e1, List.append_nil]
  have e2 : ∀ k ∈ List.range E.length, (clT s (E ++ [(M, a)]) k).filter (fun p => decide (p.2 = E.length)) = if (decide ((ge E k).2 = 1 - a) && bindsB s (ge E k) M) = true then [(k, E.length)] else [] := by
    intro k hk
    have hk : k < E.length := List.mem_range.mp hk
    unfold clT
    rw [hlen, List.filter_map, List.filter_filter]
    have e3 : E.length + 1 - (k + 1) = (E.length - k - 1) + 1 := by omega
    rw [e3, List.range_succ, List.filter_append]
    have e4 : (List.range (E.length - k - 1)).filter (fun t => ((fun p : Nat × Nat => decide (p.2 = E.length)) ∘ fun t => (k, k + 1 + t)) t && clsh s (ge (E ++ [(M, a)]) k) (ge (E ++ [(M, a)]) (k + 1 + t))) = [] := by
      rw [List.filter_eq_nil_iff]
      intro t ht
      have ht := List.mem_range.mp ht
      simp
      intro h; omega
    rw [e4, List.nil_append]
    have e5 : k + 1 + (E.length - k - 1) = E.length := by omega
    have hb : clsh s (ge E k) (M, a) = (decide ((ge E k).2 = 1 - a) && bindsB s (ge E k) M) := by
      unfold clsh
      congr 1
      have := hE _ (ge_in hk)
      by_cases q : (ge E k).2 = 1 - a
      · rw [decide_eq_true q]; simp; omega
      · rw [decide_eq_false q]; simp; omega
    simp only [List.filter_cons, List.filter_nil, Function.comp, e5, gl k hk, gn, hb]
    by_cases q : (decide ((ge E k).2 = 1 - a) && bindsB s (ge E k) M) = true
    · simp [q, e5]
    · simp [q]
  unfold bnd
  rw [List.flatMap_def, List.map_congr_left e2, ← List.flatMap_def]
  generalize List.range E.length = R
  clear e2 e1 gl gn hlen
  induction R with
  | nil => rfl
  | cons k r ih =>
    rw [List.flatMap_cons, ih, List.filter_cons]
    by_cases q : (decide ((ge E k).2 = 1 - a) && bindsB s (ge E k) M) = true
    · rw [if_pos q, if_pos q]; rfl
    · rw [if_neg q, if_neg q]; rfl
end DL

set_option Elab.async false
set_option linter.all false
set_option maxRecDepth 100000
set_option maxHeartbeats 4000000
namespace DL
open PySem PySem.Spec PyProof.Rows L2
def sp_law_marks_hold : List D → D → Prop := fun ds d => ∃ (s : List Int) (E : List Cs) (M : List Nat) (q : Bool), hyp s E ∧ val s M ∧ 0 < E.length ∧ (q = true → bnd s E M 1 = [] ∨ bnd s E M 0 = []) ∧ ds = [.lst (s.map .int), .lst (E.map cD), tupM M, .bl q] ∧ d = .bl true
theorem sp_law_marks_hold_len : ∀ (ds : List D) (d : D), sp_law_marks_hold ds d → ds.length = 4 := by rintro _ _ ⟨_, _, _, _, _, _, _, _, rfl, _⟩; rfl
def sem_law_marks_hold_b1 : WS :=
  (sSet 7 (w2 wAdd (wVar 7) (wLst (wCons (wTup (wCons (wC (.str "bound")) (wCons (wC (.int 0)) (wCons (wVar 10) wNil)))) (wCons (wTup (wCons (wC (.str "bound")) (wCons (wC (.int 1)) (wCons (wVar 10) wNil)))) (wCons (wTup (wCons (wC (.str "clash")) (wCons (wVar 10) (wCons (w2 wIx (w2 wAdd (wVar 9) (wLst (wCons (wC (.int 0)) wNil))) (wC (.int 0))) wNil)))) (wCons (wTup (wCons (wC (.str "clash")) (wCons (w2 wIx (w2 wAdd (wVar 8) (wLst (wCons (wC (.int 0)) wNil))) (wC (.int 0))) (wCons (wVar 10) wNil)))) wNil)))))))
def sem_law_marks_hold_b2 : WS :=
  (sIf (wNot (wTru (wFn sp_law_says (wCons (wFn sp_judge_bound (wCons (w2 wIx (wVar 4) (wC (.int 0))) (wCons (w2 wIx (wVar 4) (wC (.int 1))) (wCons (wVar 2) (wCons (wVar 11) wNil))))) (wCons (wFn sp_law_accepts (wCons (wVar 0) (wCons (wVar 1) (wCons (wVar 2) (wCons (wVar 11) wNil))))) wNil)))))
  (sRet (wC (.bl false)))
  sNext)
def sem_law_marks_hold_b3 : WS :=
  (sIf (wTest (w2 wLt (wVar 6) (wC (.int 30))))
  (sSeq (sSet 13 (wLc (wItS (wFn sp_clashes (wCons (w2 wIx (wVar 4) (wC (.int 0))) (wCons (w2 wAdd (wVar 1) (wLst (wCons (wTup (wCons (wVar 2) (wCons (wVar 12) wNil))) wNil))) wNil)))) (gSet 14) (wTest (w2 wEq (w2 wIx (wVar 14) (wC (.int 1))) (wVar 6))) (wVar 14) [14]))
  (sIf (wNot (wTru (wFn sp_law_same (wCons (wVar 13) (wCons (wLc (wItS (w2 wIx (wLst (wCons (wVar 8) (wCons (wVar 9) wNil))) (wVar 12))) (gSet 10) wYes (wTup (wCons (wVar 10) (wCons (wVar 6) wNil))) [10]) wNil)))))
  (sRet (wC (.bl false)))
  sNext))
  sNext)
def sem_law_marks_hold : WS :=
  (sSeq (sSet 4 (wTup (wCons (wCall wList (wCons (wVar 0) wNil)) (wCons (wCall wList (wCons (wVar 1) wNil)) wNil))))
  (sSeq (sSet 5 (wFn sp_law_due (wCons (wVar 0) (wCons (wVar 1) (wCons (wVar 2) wNil)))))
  (sSeq (sIf (wOr (wNot (wTru (wFn sp_law_same (wCons (wFn sp_find_bound (wCons (w2 wIx (wVar 4) (wC (.int 0))) (wCons (w2 wIx (wVar 4) (wC (.int 1))) (wCons (wVar 2) wNil)))) (wCons (wVar 5) wNil))))) (wAnd (wTru (wVar 3)) (wTest (w2 wEq (w2 wIx (wVar 5) (wC (.int 0))) (wC (.str "clash"))))))
  (sRet (wC (.bl false)))
  sNext)
  (sSeq (sSet 6 (wCall wLen (wCons (wVar 1) wNil)))
  (sSeq (sSet 7 (wLst (wCons (wVar 5) (wCons (w2 wAdd (wVar 5) (wTup (wCons (wC (.int 0)) wNil))) (wCons (wSl slT (wVar 5) (wPart (wC (.int 0))) (wPart (wC (.int 1)))) (wCons (wTup (wCons (wC (.str "free")) (wCons (wC (.int 0)) wNil))) (wCons (wTup (wCons (wC (.str "free")) (wCons (wC (.int 1)) wNil))) (wCons (wTup (wCons (wC (.str "frees")) (wCons (wC (.int 0)) wNil))) (wCons (wTup (wCons (wC (.str "bond")) (wCons (wC (.int 1)) (wCons (wC (.int 0)) wNil)))) (wCons (wTup (wCons (wC (.str "bound")) (wCons (wC (.int 2)) (wCons (wC (.int 0)) wNil)))) (wCons (wTup (wCons (wC (.str "bound")) (wCons (wC (.int 1)) (wCons (w2 wPow (wC (.int 10)) (wC (.int 9))) wNil)))) (wCons (wTup (wCons (wC (.str "clash")) (wCons (w1 wNeg (wC (.int 1))) (wCons (w1 wNeg (wC (.int 1))) wNil)))) wNil))))))))))))
  (sSeq (sSet 8 (wFn sp_law_binding (wCons (wVar 0) (wCons (wVar 1) (wCons (wVar 2) (wCons (wC (.int 1)) wNil))))))
  (sSeq (sSet 9 (wFn sp_law_binding (wCons (wVar 0) (wCons (wVar 1) (wCons (wVar 2) (wCons (wC (.int 0)) wNil))))))
  (sSeq (sFor (wItS (w2 wAdd (w2 wAdd (w2 wAdd (w2 wAdd (wLst (wCons (wC (.int 0)) (wCons (wC (.int 7)) (wCons (w2 wSub (wVar 6) (wC (.int 1))) wNil)))) (wSl slL (wVar 8) (wPart (wC (.int 0))) (wPart (wC (.int 2))))) (wSl slL (wVar 9) (wPart (wC (.int 0))) (wPart (wC (.int 2))))) (wSl slL (w1 wRev (wVar 8)) (wPart (wC (.int 0))) (wPart (wC (.int 1))))) (wSl slL (w1 wRev (wVar 9)) (wPart (wC (.int 0))) (wPart (wC (.int 1)))))) (gSet 10)
  sem_law_marks_hold_b1)
  (sSeq (sFor (wItS (wVar 7)) (gSet 11)
  sem_law_marks_hold_b2)
  (sSeq (sFor (wItR1 (wCons (wC (.int 2)) wNil)) (gSet 12)
  sem_law_marks_hold_b3)
  (sRet (w2 wEq (wVar 4) (wTup (wCons (wVar 0) (wCons (wVar 1) wNil)))))))))))))))
theorem due_ok {s : List Int} {E : List Cs} {M : List Nat} : PyData.strOk (dueB s E M).1 = true ∧ (dueB s E M).2.length ≤ 2 := by
  unfold dueB
  cases bnd s E M 1 <;> cases bnd s E M 0 <;> simp
theorem due_clash {s : List Int} {E : List Cs} {M : List Nat} (h : bnd s E M 1 = [] ∨ bnd s E M 0 = []) : ¬ (dueB s E M).1 = "clash" := by
  unfold dueB
  cases q1 : bnd s E M 1 <;> cases q0 : bnd s E M 0 <;> simp [q1, q0] at h ⊢
theorem sm_due {s : List Int} {E : List Cs} {M : List Nat} : sm 8 (pqD (dueB s E M)) = true := by
  have := due_ok (s := s) (E := E) (M := M)
  simp [pqD, this.1]; omega
theorem clL_len {s : List Int} {E : List Cs} (h : E.length ≤ 100) : (clL s E).length ≤ 1000000 := by
  unfold clL
  rw [List.length_flatMap]
  have h2 : ∀ q : List Nat, (q.map fun k => (clT s E k).length).sum ≤ 100 * q.length := fun q => by
    induction q with
    | nil => simp
    | cons a r ih =>
      have : (clT s E a).length ≤ 100 := by
        have := List.length_filter_le (fun t => clsh s (ge E a) (ge E (a + 1 + t))) (List.range (E.length - (a + 1)))
        simp at this
        simp [clT]; omega
      simp; omega
  have := h2 (List.range E.length)
  simp at this ⊢; omega
theorem shp_cases (s : List Int) (E : List Cs) : shp 9 (.tup [.lst (s.map .int), .lst (E.map cD)]) = true := by simp [cD, tupM, natD]
theorem hf_law_marks_hold : ∀ (ds : List D) (d : D), sp_law_marks_hold ds d → sem_law_marks_hold (startG 15 ds) { nx := fun _ => false = false ∧ d = .non, rt := fun z => z = d } := by
  rintro _ _ ⟨s, E, M, qt, hy, hM, hE0, hq, rfl, rfl⟩
  have hE := hy.2.2.1
  have hE2 := hy.2.2.2
  have hd := due_ok (s := s) (E := E) (M := M)
  have hb1 := bnd_len (s := s) (E := E) (M := M) (a := 1)
  have hb0 := bnd_len (s := s) (E := E) (M := M) (a := 0)
  unfold sem_law_marks_hold
  simp only [startG, List.map, List.replicate, List.length, List.append, List.cons_append, List.nil_append, Nat.reduceSub, Nat.reduceAdd]
  apply sq
  · intro N hN; simp; exact hN
  apply sq
  · intro N hN; simp; exact ⟨_, ⟨s, E, M, hy, hM, rfl, rfl⟩, hN⟩
  apply sq
  · intro N hN
    simp only [sIf, wOr, wAnd, wNot, wTru, wFn, wCons, wVar, wNil, wTest, w2, wC]
    simp
    refine ⟨_, ⟨s, E, M, hy.2.2, hM, rfl, rfl⟩, ?_⟩
    simp [sm_due]
    split
    · rename_i h
      simp [pqD, hd.1, due_clash (hq h)]
      exact hN
    · exact hN
  generalize dueB s E M = du at *
  obtain ⟨w, xs⟩ := du
  obtain ⟨hw, hxs⟩ := hd
  simp only at hw hxs
  apply sq
  · intro N hN; simp; exact hN
  have hcut : cutD (D.str w :: xs.map D.int) (some 0) (some 1) = [D.str w] := by
    have := cutI_nat (fun d : D => d) (D.str w :: xs.map D.int) 0 1
    simpa [Function.comp_def] using this
  let B0 : List Pq := [(w, xs), (w, xs ++ [0]), (w, []), ("free", [0]), ("free", [1]), ("frees", [0]), ("bond", [1, 0]), ("bound", [2, 0]), ("bound", [1, 1000000000]), ("clash", [-1, -1])]
  have hB0 : ∀ p ∈ B0, PyData.strOk p.1 = true := by
    intro p hp
    simp only [B0, List.mem_cons, List.not_mem_nil, or_false] at hp
    rcases hp with rfl | rfl | rfl | rfl | rfl | rfl | rfl | rfl | rfl | rfl <;> simp [hw]
  refine sq (Γ' := [some (.val (.lst (s.map .int))), some (.val (.lst (E.map cD))), some (.val (tupM M)), some (.val (.bl qt)), some (.val (.tup [.lst (s.map .int), .lst (E.map cD)])), some (.val (pqD (w, xs))), some (.val (.int E.length)), some (.val (.lst (B0.map pqD))), none, none, none, none, none, none, none]) ?_ ?_
  · intro N hN
    simp [pqD, hcut, CPow]
    simp [B0, pqD] at hN
    exact ⟨size_le (by omega), hN⟩
  have hBl : B0.length ≤ 10 := by simp [B0]
  clear_value B0
  apply sq
  · intro N hN; simp; exact use_law_binding hy.1 hy.2.1 hy.2.2 hM hN
  apply sq
  · intro N hN; simp; exact use_law_binding hy.1 hy.2.1 hy.2.2 hM hN
  generalize hY : bnd s E M 1 = Y at *
  generalize hZ : bnd s E M 0 = Z at *
  refine sqP (fun Γ => ∃ (ps : List Pq) (x10 : Option Sl), (∀ p ∈ ps, PyData.strOk p.1 = true) ∧ Γ = [some (.val (.lst (s.map .int))), some (.val (.lst (E.map cD))), some (.val (tupM M)), some (.val (.bl qt)), some (.val (.tup [.lst (s.map .int), .lst (E.map cD)])), some (.val (pqD (w, xs))), some (.val (.int E.length)), some (.val (.lst (ps.map pqD))), some (.val (.lst (Y.map natD))), some (.val (.lst (Z.map natD))), x10, none, none, none, none]) ?_ ?_
  · intro N hN
    have c1 := cutI_nat natD Y 0 2
    have c2 := cutI_nat natD Z 0 2
    have c3 := cutI_nat natD Y.reverse 0 1
    have c4 := cutI_nat natD Z.reverse 0 1
    simp only [List.drop_zero, Nat.sub_zero] at c1 c2 c3 c4
    have d1 := List.length_take_le 2 Y
    have d2 := List.length_take_le 2 Z
    have d3 := List.length_take_le 1 Y.reverse
    have d4 := List.length_take_le 1 Z.reverse
    obtain ⟨ks, hks, hkl⟩ : ∃ ks : List Int, [D.int 0, .int 7, .int ((E.length : Int) - 1)] ++ (Y.take 2).map natD ++ (Z.take 2).map natD ++ (Y.reverse.take 1).map natD ++ (Z.reverse.take 1).map natD = ks.map D.int ∧ ks.length ≤ 9 := by
      refine ⟨[0, 7, (E.length : Int) - 1] ++ (Y.take 2).map (fun (k : Nat) => (k : Int)) ++ (Z.take 2).map (fun (k : Nat) => (k : Int)) ++ (Y.reverse.take 1).map (fun (k : Nat) => (k : Int)) ++ (Z.reverse.take 1).map (fun (k : Nat) => (k : Int)), ?_, ?_⟩
      · have hnat : natD = (D.int ∘ fun (k : Nat) => (k : Int)) := rfl
        simp only [List.map_append, List.map_map, ← hnat, List.map_cons, List.map_nil]
      · simp only [List.length_append, List.length_map, List.length_cons, List.length_nil]; omega
    have e1 : cutD (Y.map natD) (some 0) (some 2) = (Y.take 2).map natD := c1
    have e2 : cutD (Z.map natD) (some 0) (some 2) = (Z.take 2).map natD := c2
    have e3 : cutD (Y.map natD).reverse (some 0) (some 1) = (Y.reverse.take 1).map natD := by rw [← List.map_reverse]; exact c3
    have e4 : cutD (Z.map natD).reverse (some 0) (some 1) = (Z.reverse.take 1).map natD := by rw [← List.map_reverse]; exact c4
    simp only [sFor, wItS, w2, wLst, wCons, wNil, wC, wVar, wSl, wPart, w1]
    simp [e1, e2, e3, e4, -List.map_take, -List.map_reverse]
    simp only [List.append_assoc, List.cons_append, List.nil_append] at hks
    rw [hks]
    refine ⟨size_le (by omega), size_le (by omega), size_le (by omega), size_le (by omega), ?_⟩
    have hzY : ∃ z : Int, atI (Y.map natD ++ [D.int 0]) 0 = some (.int z) := by
      cases Y with
      | nil => exact ⟨0, by simp⟩
      | cons a r => exact ⟨a, by simp [natD]⟩
    have hzZ : ∃ z : Int, atI (Z.map natD ++ [D.int 0]) 0 = some (.int z) := by
      cases Z with
      | nil => exact ⟨0, by simp⟩
      | cons a r => exact ⟨a, by simp [natD]⟩
    obtain ⟨zy, hzy⟩ := hzY
    obtain ⟨zz, hzz⟩ := hzZ
    have hB1 : B0.length ≤ 10 := hBl
    refine for_list D.int (fun i Γ => ∃ (ps : List Pq) (x10 : Option Sl), (∀ p ∈ ps, PyData.strOk p.1 = true) ∧ ps.length ≤ 10 + 4 * i ∧ Γ = [some (.val (.lst (s.map .int))), some (.val (.lst (E.map cD))), some (.val (tupM M)), some (.val (.bl qt)), some (.val (.tup [.lst (s.map .int), .lst (E.map cD)])), some (.val (pqD (w, xs))), some (.val (.int E.length)), some (.val (.lst (ps.map pqD))), some (.val (.lst (Y.map natD))), some (.val (.lst (Z.map natD))), x10, none, none, none, none]) ks ⟨B0, none, hB0, by omega, rfl⟩ ?_ ?_
    · rintro i k Γ N ha ⟨ps, x10, hp, hpl, rfl⟩ hN
      have hi : i < ks.length := (List.getElem?_eq_some_iff.mp ha).1
      simp [sem_law_marks_hold_b1, hzy, hzz]
      refine ⟨size_le (by omega), size_le (by omega), size_le (by omega), ?_⟩
      have := hN _ ⟨ps ++ ([("bound", [0, k]), ("bound", [1, k]), ("clash", [k, zz]), ("clash", [zy, k])] : List Pq), some (.val (.int k)), ?_, ?_, rfl⟩
      · simpa [pqD] using this
      · intro p hp2
        rcases List.mem_append.mp hp2 with h | h
        · exact hp p h
        · simp only [List.mem_cons, List.not_mem_nil, or_false] at h
          rcases h with rfl | rfl | rfl | rfl <;> simp
      · simp; omega
    · rintro Γ ⟨ps, x10, hp, hpl, rfl⟩
      exact hN _ ⟨ps, x10, hp, rfl⟩
  rintro Γ ⟨ps, x10, hps, rfl⟩
  refine sqP (fun Γ => ∃ (x10 x11 : Option Sl), Γ = [some (.val (.lst (s.map .int))), some (.val (.lst (E.map cD))), some (.val (tupM M)), some (.val (.bl qt)), some (.val (.tup [.lst (s.map .int), .lst (E.map cD)])), some (.val (pqD (w, xs))), some (.val (.int E.length)), some (.val (.lst (ps.map pqD))), some (.val (.lst (Y.map natD))), some (.val (.lst (Z.map natD))), x10, x11, none, none, none]) ?_ ?_
  · intro N hN
    simp
    refine for_list pqD (fun i Γ => ∃ (x10 x11 : Option Sl), Γ = [some (.val (.lst (s.map .int))), some (.val (.lst (E.map cD))), some (.val (tupM M)), some (.val (.bl qt)), some (.val (.tup [.lst (s.map .int), .lst (E.map cD)])), some (.val (pqD (w, xs))), some (.val (.int E.length)), some (.val (.lst (ps.map pqD))), some (.val (.lst (Y.map natD))), some (.val (.lst (Z.map natD))), x10, x11, none, none, none]) ps ⟨_, _, rfl⟩ ?_ ?_
    · rintro i p Γ N ha ⟨x10, x11, rfl⟩ hN
      have hp := hps p (List.mem_of_getElem? ha)
      simp [sem_law_marks_hold_b2]
      refine ⟨_, ⟨s, E, M, p, hy.2.2, hM, hp, rfl, rfl⟩, _, ⟨s, E, M, p, hy, hM, hp, rfl, rfl⟩, ?_⟩
      simp
      exact hN _ ⟨x10, some (.val (pqD p)), rfl⟩
    · rintro Γ ⟨x10, x11, rfl⟩
      exact hN _ ⟨_, _, rfl⟩
  rintro Γ ⟨x10, x11, rfl⟩
  refine sqP (fun Γ => ∃ (x10 x11 x12 x13 x14 : Option Sl), Γ = [some (.val (.lst (s.map .int))), some (.val (.lst (E.map cD))), some (.val (tupM M)), some (.val (.bl qt)), some (.val (.tup [.lst (s.map .int), .lst (E.map cD)])), some (.val (pqD (w, xs))), some (.val (.int E.length)), some (.val (.lst (ps.map pqD))), some (.val (.lst (Y.map natD))), some (.val (.lst (Z.map natD))), x10, x11, x12, x13, x14]) ?_ ?_
  · intro N hN
    simp
    refine for_rng 0 2 (fun i Γ => ∃ (x10 x11 x12 x13 x14 : Option Sl), Γ = [some (.val (.lst (s.map .int))), some (.val (.lst (E.map cD))), some (.val (tupM M)), some (.val (.bl qt)), some (.val (.tup [.lst (s.map .int), .lst (E.map cD)])), some (.val (pqD (w, xs))), some (.val (.int E.length)), some (.val (.lst (ps.map pqD))), some (.val (.lst (Y.map natD))), some (.val (.lst (Z.map natD))), x10, x11, x12, x13, x14]) ⟨_, _, _, _, _, rfl⟩ ?_ ?_
    · rintro i Γ N hi ⟨x10, x11, x12, x13, x14, rfl⟩ hN
      simp only [gSet, List.set, Int.zero_add]
      unfold sem_law_marks_hold_b3
      simp [wLc]
      by_cases h30 : E.length < 30
      · have hv : vals s (E ++ [(M, (i : Int))]) := ⟨by simp; omega, fun c hc => by
          rcases List.mem_append.mp hc with h | h
          · exact hE2 c h
          · simp at h; subst h; exact hM⟩
        refine .inr ⟨by omega, size_le (by omega), _, ⟨s, E ++ [(M, (i : Int))], hv, by simp [cD], rfl⟩, ?_⟩
        have hlast := clL_last (s := s) (E := E) (M := M) (a := (i : Int)) hy.2.1 (by omega)
        have hcl : (clL s (E ++ [(M, (i : Int))])).length ≤ 1000000 := clL_len hv.1
        show lcGo _ _ _ _ ((clL s (E ++ [(M, (i : Int))])).map prD') [] _
        refine lc_filter prD' (fun p => decide (p.2 = E.length)) prD' _ (fun p hp Ψ hΨ => ?_) (size_le hcl) ?_
        · simp [elW, prD']
          by_cases q : p.2 = E.length
          · simp [q, prD'] at hΨ; rw [if_pos (by omega)]; simp [q]; exact hΨ
          · simp [q] at hΨ; rw [if_neg (by omega)]; exact hΨ
        rw [hlast]
        have fin : ∀ Q : List Nat, Q.length ≤ E.length → lcGo (gSet 10) wYes (wTup (wCons (wVar 10) (wCons (wVar 6) wNil)))
              [some (.val (.lst (s.map .int))), some (.val (.lst (E.map cD))), some (.val (tupM M)), some (.val (.bl qt)), some (.val (.tup [.lst (s.map .int), .lst (E.map cD)])), some (.val (pqD (w, xs))), some (.val (.int E.length)), some (.val (.lst (ps.map pqD))), some (.val (.lst (Y.map natD))), some (.val (.lst (Z.map natD))), none, x11, some (.val (.int i)), some (.val (.lst ((Q.map fun k => (k, E.length)).map prD'))), x14]
              (Q.map natD) [] fun ys_1 => ((((Q.map fun k => (k, E.length)).map prD').length ≤ 1000000 ∧ ∀ x : D, x ∈ (Q.map fun k => (k, E.length)).map prD' → sm 7 x = true) ∧ ys_1 = (Q.map fun k => (k, E.length)).map prD' ∧
              N [some (.val (.lst (s.map .int))), some (.val (.lst (E.map cD))), some (.val (tupM M)), some (.val (.bl qt)), some (.val (.tup [.lst (s.map .int), .lst (E.map cD)])), some (.val (pqD (w, xs))), some (.val (.int E.length)), some (.val (.lst (ps.map pqD))), some (.val (.lst (Y.map natD))), some (.val (.lst (Z.map natD))), x10, x11, some (.val (.int i)), some (.val (.lst ((Q.map fun k => (k, E.length)).map prD'))), x14]) := fun Q hQ => by
          refine lc_map natD (fun k => prD' (k, E.length)) Q (fun k hk Ψ hΨ => ?_) (size_le (by omega)) ?_
          · simp [elW, natD, prD'] at hΨ ⊢; exact hΨ
          · refine ⟨⟨by simp; omega, fun x hx => ?_⟩, by rw [List.map_map]; rfl, hN _ ⟨_, _, _, _, _, rfl⟩⟩
            obtain ⟨p, _, rfl⟩ := List.mem_map.mp hx
            simp [prD']
        have hi01 : i = 0 ∨ i = 1 := by omega
        rcases hi01 with rfl | rfl
        · have hY' : bnd s E M (1 - ((0 : Nat) : Int)) = Y := by rw [← hY]; rfl
          rw [hY']
          exact ⟨.lst (Y.map natD), by simp, fin Y hb1⟩
        · have hZ' : bnd s E M (1 - ((1 : Nat) : Int)) = Z := by rw [← hZ]; rfl
          rw [hZ']
          exact ⟨.lst (Z.map natD), by simp, fin Z hb0⟩
      · exact .inl ⟨by omega, hN _ ⟨_, _, _, _, _, rfl⟩⟩
    · rintro Γ ⟨x10, x11, x12, x13, x14, rfl⟩
      exact hN _ ⟨_, _, _, _, _, rfl⟩
  rintro Γ ⟨x10, x11, x12, x13, x14, rfl⟩
  have h9 := shp_cases s E
  have hr := deq_refl h9
  simp at h9 hr ⊢
  refine ⟨fun a b _ => by simp [cD, tupM, natD], ?_⟩
  have := deq_refl (d := .lst (E.map cD)) (by simp [cD, tupM, natD])
  simpa using this
end DL

set_option Elab.async false
set_option linter.all false
set_option maxRecDepth 100000
set_option maxHeartbeats 4000000
namespace DL
open PySem PySem.Spec PyProof.Rows L2
def sp_law : List D → D → Prop := fun ds d => ∃ ns : List Int, ds = [.scr ns] ∧ d = .bl true
theorem sp_law_len : ∀ (ds : List D) (d : D), sp_law ds d → ds.length = 1 := by rintro _ _ ⟨_, rfl, _⟩; rfl
def sem_law_b1 : WS :=
  (sIf (wAnd (wTest (w2 wNe (w2 wIx (w2 wIx (wVar 4) (wVar 6)) (wC (.int 1))) (w2 wIx (w2 wIx (wVar 4) (wVar 7)) (wC (.int 1))))) (wTru (wFn sp_law_binds (wCons (wVar 3) (wCons (w2 wIx (wVar 4) (wVar 6)) (wCons (w2 wIx (w2 wIx (wVar 4) (wVar 7)) (wC (.int 0))) wNil))))))
  (sApp 5 (wTup (wCons (wVar 6) (wCons (wVar 7) wNil))))
  sNext)
def sem_law_b2 : WS :=
  (sIf (wNot (wTru (wFn sp_law_says (wCons (wFn sp_binds (wCons (wCall wList (wCons (wVar 3) wNil)) (wCons (w2 wIx (wVar 4) (wVar 11)) (wCons (wVar 10) wNil)))) (wCons (wFn sp_law_binds (wCons (wVar 3) (wCons (w2 wIx (wVar 4) (wVar 11)) (wCons (wVar 10) wNil)))) wNil)))))
  (sRet (wC (.bl false)))
  sNext)
def sem_law_b3 : WS :=
  (sSeq (sSet 9 (w2 wIx (wVar 4) (w2 wIx (wLst (wCons (w2 wSub (wCall wLen (wCons (wVar 4) wNil)) (wC (.int 1))) (wCons (wC (.int 7)) (wCons (w2 wMod (w2 wIx (wVar 1) (wC (.int 5))) (wCall wLen (wCons (wVar 4) wNil))) (wCons (w2 wMod (w2 wIx (wVar 1) (wC (.int 6))) (wCall wLen (wCons (wVar 4) wNil))) (wCons (wC (.int 0)) wNil)))))) (wVar 6))))
  (sSeq (sSet 10 (wFn sp_law_stronger (wCons (wVar 3) (wCons (wVar 9) (wCons (w2 wIx (wVar 1) (w2 wAdd (wC (.int 7)) (wVar 6))) wNil)))))
  (sSeq (sFor (wItR1 (wCons (wCall wLen (wCons (wVar 4) wNil)) wNil)) (gSet 11)
  sem_law_b2)
  (sSeq (sIf (wTest (w2 wNotB (wFn sp_binds (wCons (wCall wList (wCons (wVar 3) wNil)) (wCons (wVar 9) (wCons (wVar 10) wNil)))) (wC (.bl true))))
  (sRet (wC (.bl false)))
  sNext)
  (sApp 8 (wVar 10))))))
def sem_law : WS :=
  (sSeq (sSet 1 (wFn sp_law_draws (wCons (wVar 0) (wCons (wC (.int 0)) (wCons (wC (.int 40)) wNil)))))
  (sSeq (sSet 2 (w2 wAdd (wC (.int 7)) (w2 wMod (w2 wIx (wVar 1) (wC (.int 0))) (wC (.int 6)))))
  (sSeq (sSet 3 (wLc (wItS (wFn sp_law_draws (wCons (wVar 0) (wCons (wC (.int 1)) (wCons (wVar 2) wNil))))) (gSet 12) wYes (w2 wMod (wVar 12) (wC (.int 2))) [12]))
  (sSeq (sSet 4 (wFn sp_law_earlier (wCons (wVar 0) (wCons (wVar 3) (wCons (wSl slL (wVar 1) (wPart (wC (.int 1))) (wPart (wC (.int 3)))) wNil)))))
  (sSeq (sOwn 5 (wLst wNil))
  (sSeq (sFor (wItR1 (wCons (wCall wLen (wCons (wVar 4) wNil)) wNil)) (gSet 6)
  (sFor (wItR2 (wCons (w2 wAdd (wVar 6) (wC (.int 1))) (wCons (wCall wLen (wCons (wVar 4) wNil)) wNil))) (gSet 7)
  sem_law_b1))
  (sFrz 5 (sSeq (sIf (wOr (wNot (wTru (wFn sp_law_same (wCons (wFn sp_clashes (wCons (wCall wList (wCons (wVar 3) wNil)) (wCons (wCall wList (wCons (wVar 4) wNil)) wNil))) (wCons (wVar 5) wNil))))) (wAnd (wTest (w2 wEq (w2 wMod (w2 wIx (wVar 1) (wC (.int 2))) (wC (.int 2))) (wC (.int 0)))) (wTest (w2 wGt (wCall wLen (wCons (wVar 5) wNil)) (wC (.int 0))))))
  (sRet (wC (.bl false)))
  sNext)
  (sSeq (sOwn 8 (wLst (wCons (wTup wNil) (wCons (wRg .tup (wCons (wVar 2) wNil)) (wCons (wFn sp_law_tuple (wCons (w2 wIx (wVar 1) (wC (.int 3))) (wCons (wVar 2) wNil))) (wCons (wCall wTuple (wCons (wLc (wItR1 (wCons (wVar 2) wNil)) (gSet 13) (wTest (w2 wEq (w2 wIx (wVar 3) (wVar 13)) (w2 wMod (w2 wIx (wVar 1) (wC (.int 4))) (wC (.int 2))))) (wVar 13) [13]) wNil)) wNil))))))
  (sSeq (sFor (wItR1 (wCons (wC (.int 5)) wNil)) (gSet 6)
  sem_law_b3)
  (sFrz 8 (sSeq (sFor (wItS (wVar 8)) (gSet 10)
  (sIf (wNot (wTru (wFn sp_law_marks_hold (wCons (wVar 3) (wCons (wVar 4) (wCons (wVar 10) (wCons (w2 wEq (wCall wLen (wCons (wVar 5) wNil)) (wC (.int 0))) wNil)))))))
  (sRet (wC (.bl false)))
  sNext))
  (sRet (wC (.bl true)))))))))))))))
def clP (s : List Int) (E : List Cs) (i t : Nat) : List (Nat × Nat) := ((List.range t).filter fun t => clsh s (ge E i) (ge E (i + 1 + t))).map fun t => (i, i + 1 + t)
theorem clP_len {s : List Int} {E : List Cs} {i t : Nat} : (clP s E i t).length ≤ t := by
  have := rfilter_len (p := fun t => clsh s (ge E i) (ge E (i + 1 + t))) t
  simpa [clP] using this
theorem lb1 {s : List Int} {E : List Cs} {i t : Nat} {acc : List (Nat × Nat)} {x0 x1 x2 r8 r9 r10 r11 r12 r13 : Option Sl} {κ : DK} (hy : hyp s E) (ht : i + 1 + t < E.length) (hacc : acc.length + t ≤ 100000)
    (hN : κ.nx [x0, x1, x2, some (.val (.lst (s.map .int))), some (.val (.lst (E.map cD))), some (.own (.lst ((acc ++ clP s E i (t + 1)).map prD'))), some (.val (.int i)), some (.val (.int ((i : Int) + 1 + t))), r8, r9, r10, r11, r12, r13]) :
    sem_law_b1 [x0, x1, x2, some (.val (.lst (s.map .int))), some (.val (.lst (E.map cD))), some (.own (.lst ((acc ++ clP s E i t).map prD'))), some (.val (.int i)), some (.val (.int ((i : Int) + 1 + t))), r8, r9, r10, r11, r12, r13] κ := by
  obtain ⟨hs, hc, hE, hv⟩ := hy
  have h1 := atI_ge (E := E) (k := i) (by omega)
  have h2 := atI_ge (E := E) (k := i + 1 + t) ht
  rw [show ((i + 1 + t : Nat) : Int) = (i : Int) + 1 + t by omega] at h2
  have hl := clP_len (s := s) (E := E) (i := i) (t := t)
  have e : clP s E i (t + 1) = clP s E i t ++ if clsh s (ge E i) (ge E (i + 1 + t)) = true then [(i, i + 1 + t)] else [] := by
    unfold clP
    rw [rfilter, List.map_append]
    congr 1
    split <;> simp
  rw [e] at hN
  have hb : ∀ P : D → Prop, P (.bl (bindsB s (ge E i) (ge E (i + 1 + t)).1)) → ∃ d, sp_law_binds [.lst (s.map .int), .tup [tupM (ge E i).1, .int (ge E i).2], tupM (ge E (i + 1 + t)).1] d ∧ P d := fun P => use_law_binds (c := ge E i) hs (hc _ (ge_in (by omega))) (hv _ (ge_in (by omega))) (hv _ (ge_in ht))
  simp [sem_law_b1, h1, h2, -List.map_append]
  simp [cD, -List.map_append]
  by_cases q : (ge E i).2 = (ge E (i + 1 + t)).2
  · have : clsh s (ge E i) (ge E (i + 1 + t)) = false := by simp [clsh, q]
    rw [this] at hN
    refine .inl ⟨q, by simpa using hN⟩
  · refine .inr ⟨q, hb _ ?_⟩
    have q2 : clsh s (ge E i) (ge E (i + 1 + t)) = bindsB s (ge E i) (ge E (i + 1 + t)).1 := by simp [clsh, q]
    rw [q2] at hN
    cases q3 : bindsB s (ge E i) (ge E (i + 1 + t)).1 with
    | false => rw [q3] at hN; simpa using hN
    | true =>
      rw [q3] at hN
      simp [prD'] at hN
      simp
      exact ⟨size_lt (by omega), by simpa [prD', Int.add_assoc] using hN⟩
theorem hf_law : ∀ (ds : List D) (d : D), sp_law ds d → sem_law (startG 14 ds) { nx := fun _ => false = false ∧ d = .non, rt := fun z => z = d } := by
  rintro _ _ ⟨ns, rfl, rfl⟩
  have lA := drawsL_len ns 0 40
  have mA := drawsL_mem ns 0 40
  unfold sem_law
  simp only [startG, List.map, List.replicate, List.length, List.append, List.cons_append, List.nil_append, Nat.reduceSub, Nat.reduceAdd]
  apply sq
  · intro N hN
    simp; exact ⟨_, ⟨ns, 0, 40, by omega, rfl, rfl⟩, hN⟩
  generalize drawsL ns 0 40 = A at *
  have a0 : atI (A.map D.int) 0 = some (.int (gd A 0)) := atI_gd (i := 0) (by omega)
  have a2 : atI (A.map D.int) 2 = some (.int (gd A 2)) := atI_gd (i := 2) (by omega)
  have a3 : atI (A.map D.int) 3 = some (.int (gd A 3)) := atI_gd (i := 3) (by omega)
  have a4 : atI (A.map D.int) 4 = some (.int (gd A 4)) := atI_gd (i := 4) (by omega)
  have a5 : atI (A.map D.int) 5 = some (.int (gd A 5)) := atI_gd (i := 5) (by omega)
  have a6 : atI (A.map D.int) 6 = some (.int (gd A 6)) := atI_gd (i := 6) (by omega)
  obtain ⟨n, hn, hn1, hn2⟩ : ∃ n : Nat, 7 + gd A 0 % 6 = (n : Int) ∧ 7 ≤ n ∧ n ≤ 12 := ⟨(7 + gd A 0 % 6).toNat, by omega, by omega, by omega⟩
  apply sq
  · intro N hN
    simp [a0, hn]; exact hN
  have lB := drawsL_len ns 1 n
  have mB := drawsL_mem ns 1 n
  apply sq
  · intro N hN
    simp [wLc]
    refine ⟨_, ⟨ns, 1, n, by omega, rfl, rfl⟩, ?_⟩
    simp
    refine lc_map D.int (fun x => .int (x % 2)) _ (fun x hx Ψ hΨ => by simp [elW]; exact hΨ) (size_le (by omega)) hN
  obtain ⟨s, hs⟩ : ∃ s : List Int, s = (drawsL ns 1 n).map fun x => x % 2 := ⟨_, rfl⟩
  have hsl : s.length = n := by rw [hs, List.length_map, lB]
  have hs01 : ∀ x ∈ s, x = 0 ∨ x = 1 := by
    rw [hs]; intro x hx
    obtain ⟨y, _, rfl⟩ := List.mem_map.mp hx
    omega
  rw [show (drawsL ns 1 n).map (fun x => D.int (x % 2)) = s.map D.int by rw [hs, List.map_map]; rfl]
  clear hs lB mB
  have hcut : cutD (A.map D.int) (some 1) (some 3) = [.int (gd A 1), .int (gd A 2)] := by
    have := cutI_nat D.int A 1 3
    match A, lA with
    | x0 :: x1 :: x2 :: r, _ => simpa [gd] using this
  apply sq
  · intro N hN
    simp [hcut]
    exact ⟨_, ⟨ns, s, gd A 1, gd A 2, by omega, hs01, rfl, rfl⟩, hN⟩
  have hE01 := ear_01 (ns := ns) (s := s) (d0 := gd A 1) (d1 := gd A 2)
  have hEv := ear_vals (ns := ns) (s := s) (d0 := gd A 1) (d1 := gd A 2) (by omega)
  have hEq := ear_quiet (ns := ns) (s := s) (d0 := gd A 1) (d1 := gd A 2) hs01 (by omega)
  have hEl : 8 ≤ (earE ns s (gd A 1) (gd A 2)).length ∧ (earE ns s (gd A 1) (gd A 2)).length ≤ 30 := by simp [earE]; omega
  generalize earE ns s (gd A 1) (gd A 2) = E at *
  apply sq
  · intro N hN; simp; exact hN
  refine sqP (fun Γ => ∃ x6 x7 : Option Sl, Γ = [some (.val (.scr ns)), some (.val (.lst (A.map .int))), some (.val (.int n)), some (.val (.lst (s.map .int))), some (.val (.lst (E.map cD))), some (.own (.lst ((clL s E).map prD'))), x6, x7, none, none, none, none, none, none]) ?_ ?_
  · intro N hN
    simp
    refine ⟨by omega, for_rng 0 E.length (fun i Γ => ∃ x6 x7 : Option Sl, Γ = [some (.val (.scr ns)), some (.val (.lst (A.map .int))), some (.val (.int n)), some (.val (.lst (s.map .int))), some (.val (.lst (E.map cD))), some (.own (.lst (((List.range i).flatMap (clT s E)).map prD'))), x6, x7, none, none, none, none, none, none]) ⟨none, none, by simp⟩ ?_ ?_⟩
    · rintro i Γ N hi ⟨x6, x7, rfl⟩ hN
      simp
      rw [show ((E.length : Int) - ((i : Int) + 1)).toNat = E.length - (i + 1) by omega]
      refine ⟨⟨by omega, by omega, by omega⟩, ?_⟩
      have hfl : ∀ q : List Nat, (q.flatMap (clT s E)).length ≤ 30 * q.length := fun q => by
        induction q with
        | nil => simp
        | cons a r ih =>
          have h1 := rfilter_len (p := fun t => clsh s (ge E a) (ge E (a + 1 + t))) (E.length - (a + 1))
          have h2 : (clT s E a).length ≤ 30 := by unfold clT; rw [List.length_map]; omega
          simp only [List.flatMap_cons, List.length_append, List.length_cons]; omega
      have hfl := hfl (List.range i)
      rw [List.length_range] at hfl
      refine for_rng ((i : Int) + 1) (E.length - (i + 1)) (fun t Γ => ∃ x7 : Option Sl, Γ = [some (.val (.scr ns)), some (.val (.lst (A.map .int))), some (.val (.int n)), some (.val (.lst (s.map .int))), some (.val (.lst (E.map cD))), some (.own (.lst (((List.range i).flatMap (clT s E) ++ clP s E i t).map prD'))), some (.val (.int i)), x7, none, none, none, none, none, none]) ?_ ?_ ?_
      · exact ⟨x7, by simp [clP]⟩
      · rintro t Γ N ht ⟨x7, rfl⟩ hN
        simp only [gSet, List.set]
        exact lb1 ⟨hs01, hE01, hEv⟩ (by omega) (by omega) (hN _ ⟨_, rfl⟩)
      · rintro Γ ⟨x7, rfl⟩
        refine hN _ ⟨some (.val (.int i)), x7, ?_⟩
        rw [List.range_succ, List.flatMap_append]
        simp only [List.flatMap_cons, List.flatMap_nil, List.append_nil]
        rfl
    · rintro Γ ⟨x6, x7, rfl⟩
      exact hN _ ⟨x6, x7, rfl⟩
  rintro Γ ⟨x6, x7, rfl⟩
  simp only [sFrz]
  refine ⟨_, rfl, ?_⟩
  dsimp only [List.set]
  apply sq
  · intro N hN
    simp
    refine ⟨_, ⟨s, E, hEv, rfl, rfl⟩, ?_⟩
    refine ⟨?_, rfl, _, a2, ?_⟩
    · have := clL_len (s := s) (E := E) (by omega)
      simp [prD']; exact this
    · simp
      split
      · rename_i h; exact ⟨hEq h, hN⟩
      · exact hN
  refine sqP (fun Γ => ∃ Ts : List (List Nat), (∀ M ∈ Ts, val s M) ∧ Ts.length = 4 ∧ Γ = [some (.val (.scr ns)), some (.val (.lst (A.map .int))), some (.val (.int n)), some (.val (.lst (s.map .int))), some (.val (.lst (E.map cD))), some (.val (.lst ((clL s E).map prD'))), x6, x7, some (.own (.lst (Ts.map tupM))), none, none, none, none, none]) ?_ ?_
  · intro N hN
    simp [a3, wLc, a4, show n ≤ 16777216 by omega]
    refine ⟨by omega, _, ⟨gd A 3, n, hn2, rfl, rfl⟩, by omega, ?_⟩
    refine lc_rngF (fun k => decide (gd s k = gd A 4 % 2)) natD (fun k hk Ψ hΨ => ?_) (size_le (by omega)) ?_
    · have a := atI_gd (l := s) (i := k) (by omega)
      simp [elW, a, a4]
      by_cases q : gd s k = gd A 4 % 2
      · rw [if_pos q]; simp [q, natD] at hΨ; exact hΨ
      · rw [if_neg q]; simp [q] at hΨ; exact hΨ
    · have := hN _ ⟨[[], List.range n, tupL (gd A 3) n, (List.range n).filter fun k => decide (gd s k = gd A 4 % 2)], ?_, rfl, rfl⟩
      · have hr : rngD 0 n = (List.range n).map natD := by unfold rngD; exact List.map_congr_left fun i _ => by simp [natD]
        rw [hr]; simpa [tupM] using this
      · intro M hM
        simp only [List.mem_cons, List.not_mem_nil, or_false] at hM
        rcases hM with rfl | rfl | rfl | rfl
        · exact ⟨by simp, by simp⟩
        · exact ⟨by simp; omega, fun k hk => by have := List.mem_range.mp hk; omega⟩
        · rw [← hsl]; exact tupL_val _ (by omega)
        · exact ⟨by have := rfilter_len (p := fun k => decide (gd s k = gd A 4 % 2)) n; omega, fun k hk => by have := List.mem_range.mp (List.mem_filter.mp hk).1; omega⟩
  rintro Γ ⟨Ts0, hTs0, hTl0, rfl⟩
  refine sqP (fun Γ => ∃ (Ts : List (List Nat)) (x6 x7 x9 x10 x11 x12 x13 : Option Sl), (∀ M ∈ Ts, val s M) ∧ Γ = [some (.val (.scr ns)), some (.val (.lst (A.map .int))), some (.val (.int n)), some (.val (.lst (s.map .int))), some (.val (.lst (E.map cD))), some (.val (.lst ((clL s E).map prD'))), x6, x7, some (.own (.lst (Ts.map tupM))), x9, x10, x11, x12, x13]) ?_ ?_
  · intro N hN
    simp
    refine for_rng 0 5 (fun i Γ => ∃ (Ts : List (List Nat)) (x6 x7 x9 x10 x11 x12 x13 : Option Sl), (∀ M ∈ Ts, val s M) ∧ Ts.length = 4 + i ∧ Γ = [some (.val (.scr ns)), some (.val (.lst (A.map .int))), some (.val (.int n)), some (.val (.lst (s.map .int))), some (.val (.lst (E.map cD))), some (.val (.lst ((clL s E).map prD'))), x6, x7, some (.own (.lst (Ts.map tupM))), x9, x10, x11, x12, x13]) ⟨Ts0, _, _, _, _, _, _, _, hTs0, by omega, rfl⟩ ?_ ?_
    · rintro i Γ N hi ⟨Ts, x6, x7, x9, x10, x11, x12, x13, hT, hTl, rfl⟩ hN
      have hj : ∃ j : Nat, j < E.length ∧ atI [D.int ((E.length : Int) - 1), .int 7, .int (gd A 5 % E.length), .int (gd A 6 % E.length), .int 0] (i : Int) = some (.int j) := by
        have p1 := Int.emod_nonneg (gd A 5) (show (E.length : Int) ≠ 0 by omega)
        have p2 := Int.emod_lt_of_pos (gd A 5) (show 0 < (E.length : Int) by omega)
        have p3 := Int.emod_nonneg (gd A 6) (show (E.length : Int) ≠ 0 by omega)
        have p4 := Int.emod_lt_of_pos (gd A 6) (show 0 < (E.length : Int) by omega)
        have : i = 0 ∨ i = 1 ∨ i = 2 ∨ i = 3 ∨ i = 4 := by omega
        rcases this with rfl | rfl | rfl | rfl | rfl
        · exact ⟨E.length - 1, by omega, by simp; omega⟩
        · exact ⟨7, by omega, by simp⟩
        · exact ⟨(gd A 5 % E.length).toNat, by omega, by simp; omega⟩
        · exact ⟨(gd A 6 % E.length).toNat, by omega, by simp; omega⟩
        · exact ⟨0, by omega, atI_nat (j := 4) rfl⟩
      obtain ⟨j, hjl, hja⟩ := hj
      have aj := atI_ge hjl
      have ak := atI_gd (l := A) (i := 7 + i) (by omega)
      rw [show ((7 + i : Nat) : Int) = 7 + (i : Int) by omega] at ak
      have hin := ge_in hjl
      simp only [gSet, List.set, Int.zero_add]
      unfold sem_law_b3
      apply sq
      · intro N hN
        simp [a5, a6]
        exact ⟨by omega, _, hja, _, aj, hN⟩
      apply sq
      · intro N hN
        simp
        exact ⟨_, ak, _, ⟨s, ge E j, gd A (7 + i), by omega, rfl, rfl⟩, hN⟩
      have hsv := stL_val (s := s) (ge E j) (gd A (7 + i)) (by omega)
      have hsb := stL_binds (s := s) (c := ge E j) (x := gd A (7 + i)) hs01 (hE01 _ hin) (hEv.2 _ hin)
      generalize stL s (ge E j) (gd A (7 + i)) = M at *
      refine sqP (fun Γ => ∃ x11 : Option Sl, Γ = [some (.val (.scr ns)), some (.val (.lst (A.map .int))), some (.val (.int n)), some (.val (.lst (s.map .int))), some (.val (.lst (E.map cD))), some (.val (.lst ((clL s E).map prD'))), some (.val (.int i)), x7, some (.own (.lst (Ts.map tupM))), some (.val (cD (ge E j))), some (.val (tupM M)), x11, x12, x13]) ?_ ?_
      · intro N hN
        simp
        refine ⟨by omega, for_rng 0 E.length (fun t Γ => ∃ x11 : Option Sl, Γ = [some (.val (.scr ns)), some (.val (.lst (A.map .int))), some (.val (.int n)), some (.val (.lst (s.map .int))), some (.val (.lst (E.map cD))), some (.val (.lst ((clL s E).map prD'))), some (.val (.int i)), x7, some (.own (.lst (Ts.map tupM))), some (.val (cD (ge E j))), some (.val (tupM M)), x11, x12, x13]) ⟨_, rfl⟩ ?_ ?_⟩
        · rintro t Γ N ht ⟨x11, rfl⟩ hN
          have atE := atI_ge ht
          have hti := ge_in ht
          simp [sem_law_b2, atE]
          refine use_binds (hEv.2 _ hti) hsv (use_law_binds hs01 (hE01 _ hti) (hEv.2 _ hti) hsv ?_)
          simp
          exact hN _ ⟨_, rfl⟩
        · rintro Γ ⟨x11, rfl⟩
          exact hN _ ⟨_, rfl⟩
      rintro Γ ⟨x11, rfl⟩
      apply sq
      · intro N hN
        simp
        refine use_binds (hEv.2 _ hin) hsv ?_
        simp [hsb]
        exact hN
      simp
      refine ⟨size_lt (by omega), ?_⟩
      have := hN _ ⟨Ts ++ [M], some (.val (.int i)), x7, some (.val (cD (ge E j))), some (.val (tupM M)), x11, x12, x13, ?_, by simp; omega, rfl⟩
      · simpa using this
      · intro M' h'
        rcases List.mem_append.mp h' with h | h
        · exact hT M' h
        · simp at h; subst h; exact hsv
    · rintro Γ ⟨Ts, x6, x7, x9, x10, x11, x12, x13, hT, hTl, rfl⟩
      exact hN _ ⟨Ts, _, _, _, _, _, _, _, hT, rfl⟩
  rintro Γ ⟨Ts, x6, x7, x9, x10, x11, x12, x13, hT, rfl⟩
  simp only [sFrz]
  refine ⟨_, rfl, ?_⟩
  dsimp only [List.set]
  refine sqP (fun Γ => ∃ x10 : Option Sl, Γ = [some (.val (.scr ns)), some (.val (.lst (A.map .int))), some (.val (.int n)), some (.val (.lst (s.map .int))), some (.val (.lst (E.map cD))), some (.val (.lst ((clL s E).map prD'))), x6, x7, some (.val (.lst (Ts.map tupM))), x9, x10, x11, x12, x13]) ?_ ?_
  · intro N hN
    simp
    refine for_list tupM (fun t Γ => ∃ x10 : Option Sl, Γ = [some (.val (.scr ns)), some (.val (.lst (A.map .int))), some (.val (.int n)), some (.val (.lst (s.map .int))), some (.val (.lst (E.map cD))), some (.val (.lst ((clL s E).map prD'))), x6, x7, some (.val (.lst (Ts.map tupM))), x9, x10, x11, x12, x13]) Ts ⟨_, rfl⟩ ?_ ?_
    · rintro i M Γ N ha ⟨x10, rfl⟩ hN
      simp
      refine ⟨_, ⟨s, E, M, _, ⟨hs01, hE01, hEv⟩, hT M (List.mem_of_getElem? ha), by omega, fun h => quiet_law hs01 hEv.2 (by simpa using h), rfl, rfl⟩, ?_⟩
      simp
      exact hN _ ⟨_, rfl⟩
    · rintro Γ ⟨x10, rfl⟩
      exact hN _ ⟨_, rfl⟩
  rintro Γ ⟨x10, rfl⟩
  simp
end DL

set_option Elab.async false
set_option linter.all false
set_option maxRecDepth 100000
set_option maxHeartbeats 4000000
namespace DL
open PySem PySem.Spec PyProof.Rows L2
theorem law_start {K : Fr} {H : Hp} {a : Addr} (ns : List Int) (hl : ns.length ≤ 63) (hS : SqL K H a (ns.map V.int)) : spD false K sp_law [.ref a] H (fun v _ => v = .bl true) fun _ _ _ => False :=
  ⟨H, [.scr ns], .bl true, Same.refl _, .cons (.scr hS) .nil, ⟨ns, rfl, rfl⟩, fun v F' H' g r => r.bl_inv⟩
def topS (i : Nat) : Stmt := PySem.Challenge.pw_juriesagree_k71_whole_many_marks_and_ear.main.body.getD i (.Pass ⟨0, 0, 0, 0⟩)
abbrev s_is_whole : Stmt := topS 1
theorem sc_is_whole : FnScope ["value"] ["value"] (defScope s_is_whole) := ⟨rfl, rfl, rfl, by decide +kernel, rfl, by decide +kernel, by decide +kernel⟩
abbrev s_is_within : Stmt := topS 2
theorem sc_is_within : FnScope ["value", "low", "high"] ["value", "low", "high"] (defScope s_is_within) := ⟨rfl, rfl, rfl, by decide +kernel, rfl, by decide +kernel, by decide +kernel⟩
abbrev s_speaking : Stmt := topS 4
theorem sc_speaking : FnScope ["sides", "marks", "answer", "mark"] ["sides", "marks", "answer"] (defScope s_speaking) := ⟨rfl, rfl, rfl, by decide +kernel, rfl, by decide +kernel, by decide +kernel⟩
abbrev s_binds : Stmt := topS 5
theorem sc_binds : FnScope ["sides", "earlier", "marks", "known", "answer", "mark"] ["sides", "earlier", "marks"] (defScope s_binds) := ⟨rfl, rfl, rfl, by decide +kernel, rfl, by decide +kernel, by decide +kernel⟩
abbrev s_clash : Stmt := topS 6
theorem sc_clash : FnScope ["sides", "one", "other"] ["sides", "one", "other"] (defScope s_clash) := ⟨rfl, rfl, rfl, by decide +kernel, rfl, by decide +kernel, by decide +kernel⟩
abbrev s_clashes : Stmt := topS 7
theorem sc_clashes : FnScope ["sides", "earlier", "count", "k", "j"] ["sides", "earlier"] (defScope s_clashes) := ⟨rfl, rfl, rfl, by decide +kernel, rfl, by decide +kernel, by decide +kernel⟩
abbrev s_binding : Stmt := topS 8
theorem sc_binding : FnScope ["sides", "earlier", "marks", "answer", "k", "one"] ["sides", "earlier", "marks", "answer"] (defScope s_binding) := ⟨rfl, rfl, rfl, by decide +kernel, rfl, by decide +kernel, by decide +kernel⟩
abbrev s_find_bound : Stmt := topS 9
theorem sc_find_bound : FnScope ["sides", "earlier", "marks", "yes", "no"] ["sides", "earlier", "marks"] (defScope s_find_bound) := ⟨rfl, rfl, rfl, by decide +kernel, rfl, by decide +kernel, by decide +kernel⟩
abbrev s_is_binding : Stmt := topS 10
theorem sc_is_binding : FnScope ["sides", "earlier", "marks", "answer", "k"] ["sides", "earlier", "marks", "answer", "k"] (defScope s_is_binding) := ⟨rfl, rfl, rfl, by decide +kernel, rfl, by decide +kernel, by decide +kernel⟩
abbrev s_judge_bound : Stmt := topS 11
theorem sc_judge_bound : FnScope ["sides", "earlier", "marks", "verdict", "word", "one", "other"] ["sides", "earlier", "marks", "verdict"] (defScope s_judge_bound) := ⟨rfl, rfl, rfl, by decide +kernel, rfl, by decide +kernel, by decide +kernel⟩
abbrev s_law_cell : Stmt := topS 13
theorem sc_law_cell : FnScope ["script", "k"] ["script", "k"] (defScope s_law_cell) := ⟨rfl, rfl, rfl, by decide +kernel, rfl, by decide +kernel, by decide +kernel⟩
abbrev s_law_numbers : Stmt := topS 14
theorem sc_law_numbers : FnScope ["cell", "count", "limit", "found", "k", "mixed"] ["cell", "count", "limit"] (defScope s_law_numbers) := ⟨rfl, rfl, rfl, by decide +kernel, rfl, by decide +kernel, by decide +kernel⟩
abbrev s_law_same : Stmt := topS 15
theorem sc_law_same : FnScope ["told", "due", "k"] ["told", "due"] (defScope s_law_same) := ⟨rfl, rfl, rfl, by decide +kernel, rfl, by decide +kernel, by decide +kernel⟩
abbrev s_law_draws : Stmt := topS 16
theorem sc_law_draws : FnScope ["script", "k", "count"] ["script", "k", "count"] (defScope s_law_draws) := ⟨rfl, rfl, rfl, by decide +kernel, rfl, by decide +kernel, by decide +kernel⟩
abbrev s_law_says : Stmt := topS 17
theorem sc_law_says : FnScope ["told", "due"] ["told", "due"] (defScope s_law_says) := ⟨rfl, rfl, rfl, by decide +kernel, rfl, by decide +kernel, by decide +kernel⟩
abbrev s_law_tuple : Stmt := topS 18
theorem sc_law_tuple : FnScope ["draw", "count", "found", "mark"] ["draw", "count"] (defScope s_law_tuple) := ⟨rfl, rfl, rfl, by decide +kernel, rfl, by decide +kernel, by decide +kernel⟩
abbrev s_law_earlier : Stmt := topS 19
theorem sc_law_earlier : FnScope ["script", "sides", "draws", "cells", "found", "k", "marks", "yes", "answer", "mark"] ["script", "sides", "draws"] (defScope s_law_earlier) := ⟨rfl, rfl, rfl, by decide +kernel, rfl, by decide +kernel, by decide +kernel⟩
abbrev s_law_binds : Stmt := topS 20
theorem sc_law_binds : FnScope ["sides", "one", "marks", "lacking", "other", "mark"] ["sides", "one", "marks"] (defScope s_law_binds) := ⟨rfl, rfl, rfl, by decide +kernel, rfl, by decide +kernel, by decide +kernel⟩
abbrev s_law_binding : Stmt := topS 21
theorem sc_law_binding : FnScope ["sides", "earlier", "marks", "answer", "k"] ["sides", "earlier", "marks", "answer"] (defScope s_law_binding) := ⟨rfl, rfl, rfl, by decide +kernel, rfl, by decide +kernel, by decide +kernel⟩
abbrev s_law_due : Stmt := topS 22
theorem sc_law_due : FnScope ["sides", "earlier", "marks", "yes", "no"] ["sides", "earlier", "marks"] (defScope s_law_due) := ⟨rfl, rfl, rfl, by decide +kernel, rfl, by decide +kernel, by decide +kernel⟩
abbrev s_law_accepts : Stmt := topS 23
theorem sc_law_accepts : FnScope ["sides", "earlier", "marks", "paper", "yes", "no"] ["sides", "earlier", "marks", "paper"] (defScope s_law_accepts) := ⟨rfl, rfl, rfl, by decide +kernel, rfl, by decide +kernel, by decide +kernel⟩
abbrev s_law_stronger : Stmt := topS 24
theorem sc_law_stronger : FnScope ["sides", "one", "draw", "found", "mark", "some"] ["sides", "one", "draw"] (defScope s_law_stronger) := ⟨rfl, rfl, rfl, by decide +kernel, rfl, by decide +kernel, by decide +kernel⟩
abbrev s_law_marks_hold : Stmt := topS 25
theorem sc_law_marks_hold : FnScope ["sides", "earlier", "marks", "quiet", "handed", "due", "many", "papers", "yes", "no", "k", "paper", "answer", "later", "pair"] ["sides", "earlier", "marks", "quiet"] (defScope s_law_marks_hold) := ⟨rfl, rfl, rfl, by decide +kernel, rfl, by decide +kernel, by decide +kernel⟩
abbrev s_law : Stmt := topS 26
theorem sc_law : FnScope ["script", "draws", "count", "sides", "earlier", "due", "k", "j", "tries", "one", "marks", "at", "cell", "mark"] ["script"] (defScope s_law) := ⟨rfl, rfl, rfl, by decide +kernel, rfl, by decide +kernel, by decide +kernel⟩
structure Tx (K : Fr) (mg : Str → Option Value) (a_is_whole a_is_within a_speaking a_binds a_clash a_clashes a_binding a_find_bound a_is_binding a_judge_bound a_law_cell a_law_numbers a_law_same a_law_draws a_law_says a_law_tuple a_law_earlier a_law_binds a_law_binding a_law_due a_law_accepts a_law_stronger a_law_marks_hold a_law : Addr) (d_is_whole d_is_within d_speaking d_binds d_clash d_clashes d_binding d_find_bound d_is_binding d_judge_bound d_law_cell d_law_numbers d_law_same d_law_draws d_law_says d_law_tuple d_law_earlier d_law_binds d_law_binding d_law_due d_law_accepts d_law_stronger d_law_marks_hold d_law : FuncData) : Prop where
  F_is_whole : Fun K "is_whole" "is_whole" s_is_whole a_is_whole d_is_whole
  g_is_whole : mg "is_whole" = some (.ref a_is_whole)
  b_is_whole : Binds K d_is_whole ["value"] []
  F_is_within : Fun K "is_within" "is_within" s_is_within a_is_within d_is_within
  g_is_within : mg "is_within" = some (.ref a_is_within)
  b_is_within : Binds K d_is_within ["value", "low", "high"] []
  F_speaking : Fun K "speaking" "speaking" s_speaking a_speaking d_speaking
  g_speaking : mg "speaking" = some (.ref a_speaking)
  b_speaking : Binds K d_speaking ["sides", "marks", "answer"] []
  F_binds : Fun K "binds" "binds" s_binds a_binds d_binds
  g_binds : mg "binds" = some (.ref a_binds)
  b_binds : Binds K d_binds ["sides", "earlier", "marks"] []
  F_clash : Fun K "clash" "clash" s_clash a_clash d_clash
  g_clash : mg "clash" = some (.ref a_clash)
  b_clash : Binds K d_clash ["sides", "one", "other"] []
  F_clashes : Fun K "clashes" "clashes" s_clashes a_clashes d_clashes
  g_clashes : mg "clashes" = some (.ref a_clashes)
  b_clashes : Binds K d_clashes ["sides", "earlier"] []
  F_binding : Fun K "binding" "binding" s_binding a_binding d_binding
  g_binding : mg "binding" = some (.ref a_binding)
  b_binding : Binds K d_binding ["sides", "earlier", "marks", "answer"] []
  F_find_bound : Fun K "find_bound" "find_bound" s_find_bound a_find_bound d_find_bound
  g_find_bound : mg "find_bound" = some (.ref a_find_bound)
  b_find_bound : Binds K d_find_bound ["sides", "earlier", "marks"] []
  F_is_binding : Fun K "is_binding" "is_binding" s_is_binding a_is_binding d_is_binding
  g_is_binding : mg "is_binding" = some (.ref a_is_binding)
  b_is_binding : Binds K d_is_binding ["sides", "earlier", "marks", "answer", "k"] []
  F_judge_bound : Fun K "judge_bound" "judge_bound" s_judge_bound a_judge_bound d_judge_bound
  g_judge_bound : mg "judge_bound" = some (.ref a_judge_bound)
  b_judge_bound : Binds K d_judge_bound ["sides", "earlier", "marks", "verdict"] []
  F_law_cell : Fun K "_law_cell" "_law_cell" s_law_cell a_law_cell d_law_cell
  g_law_cell : mg "_law_cell" = some (.ref a_law_cell)
  b_law_cell : Binds K d_law_cell ["script", "k"] []
  F_law_numbers : Fun K "_law_numbers" "_law_numbers" s_law_numbers a_law_numbers d_law_numbers
  g_law_numbers : mg "_law_numbers" = some (.ref a_law_numbers)
  b_law_numbers : Binds K d_law_numbers ["cell", "count", "limit"] []
  F_law_same : Fun K "_law_same" "_law_same" s_law_same a_law_same d_law_same
  g_law_same : mg "_law_same" = some (.ref a_law_same)
  b_law_same : Binds K d_law_same ["told", "due"] []
  F_law_draws : Fun K "_law_draws" "_law_draws" s_law_draws a_law_draws d_law_draws
  g_law_draws : mg "_law_draws" = some (.ref a_law_draws)
  b_law_draws : Binds K d_law_draws ["script", "k", "count"] []
  F_law_says : Fun K "_law_says" "_law_says" s_law_says a_law_says d_law_says
  g_law_says : mg "_law_says" = some (.ref a_law_says)
  b_law_says : Binds K d_law_says ["told", "due"] []
  F_law_tuple : Fun K "_law_tuple" "_law_tuple" s_law_tuple a_law_tuple d_law_tuple
  g_law_tuple : mg "_law_tuple" = some (.ref a_law_tuple)
  b_law_tuple : Binds K d_law_tuple ["draw", "count"] []
  F_law_earlier : Fun K "_law_earlier" "_law_earlier" s_law_earlier a_law_earlier d_law_earlier
  g_law_earlier : mg "_law_earlier" = some (.ref a_law_earlier)
  b_law_earlier : Binds K d_law_earlier ["script", "sides", "draws"] []
  F_law_binds : Fun K "_law_binds" "_law_binds" s_law_binds a_law_binds d_law_binds
  g_law_binds : mg "_law_binds" = some (.ref a_law_binds)
  b_law_binds : Binds K d_law_binds ["sides", "one", "marks"] []
  F_law_binding : Fun K "_law_binding" "_law_binding" s_law_binding a_law_binding d_law_binding
  g_law_binding : mg "_law_binding" = some (.ref a_law_binding)
  b_law_binding : Binds K d_law_binding ["sides", "earlier", "marks", "answer"] []
  F_law_due : Fun K "_law_due" "_law_due" s_law_due a_law_due d_law_due
  g_law_due : mg "_law_due" = some (.ref a_law_due)
  b_law_due : Binds K d_law_due ["sides", "earlier", "marks"] []
  F_law_accepts : Fun K "_law_accepts" "_law_accepts" s_law_accepts a_law_accepts d_law_accepts
  g_law_accepts : mg "_law_accepts" = some (.ref a_law_accepts)
  b_law_accepts : Binds K d_law_accepts ["sides", "earlier", "marks", "paper"] []
  F_law_stronger : Fun K "_law_stronger" "_law_stronger" s_law_stronger a_law_stronger d_law_stronger
  g_law_stronger : mg "_law_stronger" = some (.ref a_law_stronger)
  b_law_stronger : Binds K d_law_stronger ["sides", "one", "draw"] []
  F_law_marks_hold : Fun K "_law_marks_hold" "_law_marks_hold" s_law_marks_hold a_law_marks_hold d_law_marks_hold
  g_law_marks_hold : mg "_law_marks_hold" = some (.ref a_law_marks_hold)
  b_law_marks_hold : Binds K d_law_marks_hold ["sides", "earlier", "marks", "quiet"] []
  F_law : Fun K "law" "law" s_law a_law d_law
  g_law : mg "law" = some (.ref a_law)
  b_law : Binds K d_law ["script"] []
  m_all : mg "all" = none
  m_any : mg "any" = none
  m_bool : mg "bool" = none
  m_enumerate : mg "enumerate" = none
  m_int : mg "int" = none
  m_isinstance : mg "isinstance" = none
  m_len : mg "len" = none
  m_list : mg "list" = none
  m_range : mg "range" = none
  m_str : mg "str" = none
  m_tuple : mg "tuple" = none
section
variable {P : Program} {w : World} {K : Fr} {mg : Str → Option Value} {base : Heap} {a_is_whole a_is_within a_speaking a_binds a_clash a_clashes a_binding a_find_bound a_is_binding a_judge_bound a_law_cell a_law_numbers a_law_same a_law_draws a_law_says a_law_tuple a_law_earlier a_law_binds a_law_binding a_law_due a_law_accepts a_law_stronger a_law_marks_hold a_law : Addr} {d_is_whole d_is_within d_speaking d_binds d_clash d_clashes d_binding d_find_bound d_is_binding d_judge_bound d_law_cell d_law_numbers d_law_same d_law_draws d_law_says d_law_tuple d_law_earlier d_law_binds d_law_binding d_law_due d_law_accepts d_law_stronger d_law_marks_hold d_law : FuncData}
theorem ok_is_whole (T : Tx K mg a_is_whole a_is_within a_speaking a_binds a_clash a_clashes a_binding a_find_bound a_is_binding a_judge_bound a_law_cell a_law_numbers a_law_same a_law_draws a_law_says a_law_tuple a_law_earlier a_law_binds a_law_binding a_law_due a_law_accepts a_law_stronger a_law_marks_hold a_law d_is_whole d_is_within d_speaking d_binds d_clash d_clashes d_binding d_find_bound d_is_binding d_judge_bound d_law_cell d_law_numbers d_law_same d_law_draws d_law_says d_law_tuple d_law_earlier d_law_binds d_law_binding d_law_due d_law_accepts d_law_stronger d_law_marks_hold d_law) : FnOk P w K mg base CX0 1 a_is_whole d_is_whole ["value"] (spD false K sp_is_whole) :=
  fnD T.F_is_whole sc_is_whole sp_is_whole_len hf_is_whole fun cdv A outer s H E hr => by
    exact ⟨_, (dss_one (ds_ret (de_and (de_isi (T := "int") ((de_var 0)).toB T.m_isinstance T.m_int (by decide +kernel) kit_int) (de_one (de_notT ((de_isi (T := "bool") ((de_var 0)).toB T.m_isinstance T.m_bool (by decide +kernel) kit_bool)).toB)))))⟩
theorem ok_is_within (T : Tx K mg a_is_whole a_is_within a_speaking a_binds a_clash a_clashes a_binding a_find_bound a_is_binding a_judge_bound a_law_cell a_law_numbers a_law_same a_law_draws a_law_says a_law_tuple a_law_earlier a_law_binds a_law_binding a_law_due a_law_accepts a_law_stronger a_law_marks_hold a_law d_is_whole d_is_within d_speaking d_binds d_clash d_clashes d_binding d_find_bound d_is_binding d_judge_bound d_law_cell d_law_numbers d_law_same d_law_draws d_law_says d_law_tuple d_law_earlier d_law_binds d_law_binding d_law_due d_law_accepts d_law_stronger d_law_marks_hold d_law) : FnOk P w K mg base CX0 2 a_is_within d_is_within ["value", "low", "high"] (spD false K sp_is_within) :=
  fnD T.F_is_within sc_is_within sp_is_within_len hf_is_within fun cdv A outer s H E hr => by
    have G_is_whole := (ok_is_whole (P := P) (w := w) (base := base) T).mono (show 1 ≤ 1 by decide)
    exact ⟨_, (dss_one (ds_ret (de_and (de_call G_is_whole hr T.g_is_whole T.F_is_whole.kp T.b_is_whole (da_cons (de_var 0) da_nil)) (de_one (de_chain o_le d_le o_le d_le ((de_var 1)).toB ((de_var 0)).toB ((de_var 2)).toB)))))⟩
theorem ok_speaking (T : Tx K mg a_is_whole a_is_within a_speaking a_binds a_clash a_clashes a_binding a_find_bound a_is_binding a_judge_bound a_law_cell a_law_numbers a_law_same a_law_draws a_law_says a_law_tuple a_law_earlier a_law_binds a_law_binding a_law_due a_law_accepts a_law_stronger a_law_marks_hold a_law d_is_whole d_is_within d_speaking d_binds d_clash d_clashes d_binding d_find_bound d_is_binding d_judge_bound d_law_cell d_law_numbers d_law_same d_law_draws d_law_says d_law_tuple d_law_earlier d_law_binds d_law_binding d_law_due d_law_accepts d_law_stronger d_law_marks_hold d_law) : FnOk P w K mg base CX0 1 a_speaking d_speaking ["sides", "marks", "answer"] (spD false K sp_speaking) :=
  fnD T.F_speaking sc_speaking sp_speaking_len hf_speaking fun cdv A outer s H E hr => by
    exact ⟨_, (dss_one (ds_ret ((df_lc rfl sc_speaking.nd (di_seq (de_var 1)) (blk_ok ["sides", "marks", "answer", "mark"] (defScope s_speaking) (by decide +kernel)) (fun _ _ _ _ _ => (dg_name 3 sc_speaking.nd)) (fun _ _ _ _ _ => (dts_one (dt_cmp (o_eq hr) d_eq ((de_ix x_seq d_ix ((de_var 0)).toB ((de_var 3)).toB)).toB ((de_var 2)).toB (nomark _)))) (fun _ _ _ _ _ => (de_var 3)) (own := [("mark", 3)]))).toE))⟩
theorem ok_binds (T : Tx K mg a_is_whole a_is_within a_speaking a_binds a_clash a_clashes a_binding a_find_bound a_is_binding a_judge_bound a_law_cell a_law_numbers a_law_same a_law_draws a_law_says a_law_tuple a_law_earlier a_law_binds a_law_binding a_law_due a_law_accepts a_law_stronger a_law_marks_hold a_law d_is_whole d_is_within d_speaking d_binds d_clash d_clashes d_binding d_find_bound d_is_binding d_judge_bound d_law_cell d_law_numbers d_law_same d_law_draws d_law_says d_law_tuple d_law_earlier d_law_binds d_law_binding d_law_due d_law_accepts d_law_stronger d_law_marks_hold d_law) : FnOk P w K mg base CX0 2 a_binds d_binds ["sides", "earlier", "marks"] (spD false K sp_binds) :=
  fnD T.F_binds sc_binds sp_binds_len hf_binds fun cdv A outer s H E hr => by
    have G_speaking := (ok_speaking (P := P) (w := w) (base := base) T).mono (show 1 ≤ 1 by decide)
    exact ⟨_, (dss_cons (ds_asg (de_var 1) (dg_tup rfl (dgs_cons (dg_name 3 sc_binds.nd) (dgs_cons (dg_name 4 sc_binds.nd) dgs_nil))))
  (dss_cons (ds_if (dt_not (dt_tru ((de_blt (c_all rfl) d_allB T.m_all (dab_cons ((df_lc rfl sc_binds.nd (di_seq (de_call G_speaking hr T.g_speaking T.F_speaking.kp T.b_speaking (da_cons (de_var 0) (da_cons (de_var 3) (da_cons (de_var 4) da_nil))))) (blk_ok ["sides", "earlier", "marks", "known", "answer", "mark"] (defScope s_binds) (by decide +kernel)) (fun _ _ _ _ _ => (dg_name 5 sc_binds.nd)) (fun _ _ _ _ _ => dts_nil) (fun _ _ _ _ _ => (de_cmp (o_in hr) d_in ((de_var 5)).toB ((de_var 2)).toB (by with_unfolding_all rfl))) (own := [("mark", 5)]))).toB dab_nil))).toB))
  (dss_one (ds_ret de_bl))
  dss_nil)
  (dss_one (ds_ret (de_blt (c_all rfl) d_allB T.m_all (dab_cons ((df_lc rfl sc_binds.nd (di_seq (de_call G_speaking hr T.g_speaking T.F_speaking.kp T.b_speaking (da_cons (de_var 0) (da_cons (de_var 2) (da_cons (de_op o_sub d_sub (de_int).toB ((de_var 4)).toB) da_nil))))) (blk_ok ["sides", "earlier", "marks", "known", "answer", "mark"] (defScope s_binds) (by decide +kernel)) (fun _ _ _ _ _ => (dg_name 5 sc_binds.nd)) (fun _ _ _ _ _ => dts_nil) (fun _ _ _ _ _ => (de_cmp (o_in hr) d_in ((de_var 5)).toB ((de_var 3)).toB (by with_unfolding_all rfl))) (own := [("mark", 5)]))).toB dab_nil))))))⟩
theorem ok_clash (T : Tx K mg a_is_whole a_is_within a_speaking a_binds a_clash a_clashes a_binding a_find_bound a_is_binding a_judge_bound a_law_cell a_law_numbers a_law_same a_law_draws a_law_says a_law_tuple a_law_earlier a_law_binds a_law_binding a_law_due a_law_accepts a_law_stronger a_law_marks_hold a_law d_is_whole d_is_within d_speaking d_binds d_clash d_clashes d_binding d_find_bound d_is_binding d_judge_bound d_law_cell d_law_numbers d_law_same d_law_draws d_law_says d_law_tuple d_law_earlier d_law_binds d_law_binding d_law_due d_law_accepts d_law_stronger d_law_marks_hold d_law) : FnOk P w K mg base CX0 3 a_clash d_clash ["sides", "one", "other"] (spD false K sp_clash) :=
  fnD T.F_clash sc_clash sp_clash_len hf_clash fun cdv A outer s H E hr => by
    have G_binds := (ok_binds (P := P) (w := w) (base := base) T).mono (show 2 ≤ 2 by decide)
    exact ⟨_, (dss_one (ds_ret (de_and (de_cmp (o_ne hr) d_ne ((de_ix x_seq d_ix ((de_var 1)).toB (de_int).toB)).toB ((de_ix x_seq d_ix ((de_var 2)).toB (de_int).toB)).toB (nomark _)) (de_one (de_call G_binds hr T.g_binds T.F_binds.kp T.b_binds (da_cons (de_var 0) (da_cons (de_var 1) (da_cons (de_ix x_seq d_ix ((de_var 2)).toB (de_int).toB) da_nil))))))))⟩
theorem ok_clashes (T : Tx K mg a_is_whole a_is_within a_speaking a_binds a_clash a_clashes a_binding a_find_bound a_is_binding a_judge_bound a_law_cell a_law_numbers a_law_same a_law_draws a_law_says a_law_tuple a_law_earlier a_law_binds a_law_binding a_law_due a_law_accepts a_law_stronger a_law_marks_hold a_law d_is_whole d_is_within d_speaking d_binds d_clash d_clashes d_binding d_find_bound d_is_binding d_judge_bound d_law_cell d_law_numbers d_law_same d_law_draws d_law_says d_law_tuple d_law_earlier d_law_binds d_law_binding d_law_due d_law_accepts d_law_stronger d_law_marks_hold d_law) : FnOk P w K mg base CX0 4 a_clashes d_clashes ["sides", "earlier"] (spD false K sp_clashes) :=
  fnD T.F_clashes sc_clashes sp_clashes_len hf_clashes fun cdv A outer s H E hr => by
    have G_clash := (ok_clash (P := P) (w := w) (base := base) T).mono (show 3 ≤ 3 by decide)
    exact ⟨_, (dss_cons (ds_set 2 sc_clashes.nd (de_blt c_len d_len T.m_len (dab_cons ((de_var 1)).toB dab_nil)))
  (dss_one (ds_ret ((df_lc2 rfl sc_clashes.nd (di_range1 T.m_range (da_cons (de_var 2) da_nil)) (blk_ok ["sides", "earlier", "count", "k", "j"] (defScope s_clashes) (by decide +kernel)) (fun _ _ _ _ _ => (dg_name 3 sc_clashes.nd)) (fun _ _ _ _ _ => dts_nil) (fun _ _ _ _ _ => (di_range2 T.m_range (da_cons (de_op o_add d_add ((de_var 3)).toB (de_int).toB) (da_cons (de_var 2) da_nil)))) (fun _ _ _ _ _ => (dg_name 4 sc_clashes.nd)) (fun _ _ _ _ _ => (dts_one (dt_tru ((de_call G_clash hr T.g_clash T.F_clash.kp T.b_clash (da_cons (de_var 0) (da_cons (de_ix x_seq d_ix ((de_var 1)).toB ((de_var 3)).toB) (da_cons (de_ix x_seq d_ix ((de_var 1)).toB ((de_var 4)).toB) da_nil))))).toB))) (fun _ _ _ _ _ => (de_tup (da_cons (de_var 3) (da_cons (de_var 4) da_nil)))) [4] (own := [("k", 3), ("j", 4)]))).toE)))⟩
theorem ok_binding (T : Tx K mg a_is_whole a_is_within a_speaking a_binds a_clash a_clashes a_binding a_find_bound a_is_binding a_judge_bound a_law_cell a_law_numbers a_law_same a_law_draws a_law_says a_law_tuple a_law_earlier a_law_binds a_law_binding a_law_due a_law_accepts a_law_stronger a_law_marks_hold a_law d_is_whole d_is_within d_speaking d_binds d_clash d_clashes d_binding d_find_bound d_is_binding d_judge_bound d_law_cell d_law_numbers d_law_same d_law_draws d_law_says d_law_tuple d_law_earlier d_law_binds d_law_binding d_law_due d_law_accepts d_law_stronger d_law_marks_hold d_law) : FnOk P w K mg base CX0 3 a_binding d_binding ["sides", "earlier", "marks", "answer"] (spD false K sp_binding) :=
  fnD T.F_binding sc_binding sp_binding_len hf_binding fun cdv A outer s H E hr => by
    have G_binds := (ok_binds (P := P) (w := w) (base := base) T).mono (show 2 ≤ 2 by decide)
    exact ⟨_, (dss_one (ds_ret ((df_lc rfl sc_binding.nd (di_enum T.m_enumerate (da_cons (de_var 1) da_nil)) (blk_ok ["sides", "earlier", "marks", "answer", "k", "one"] (defScope s_binding) (by decide +kernel)) (fun _ _ _ _ _ => (dg_tup rfl (dgs_cons (dg_name 4 sc_binding.nd) (dgs_cons (dg_name 5 sc_binding.nd) dgs_nil)))) (fun _ _ _ _ _ => (dts_one ((dw_and (dt_cmp (o_eq hr) d_eq ((de_ix x_seq d_ix ((de_var 5)).toB (de_int).toB)).toB ((de_var 3)).toB (nomark _)) (dw_and1 (dt_tru ((de_call G_binds hr T.g_binds T.F_binds.kp T.b_binds (da_cons (de_var 0) (da_cons (de_var 5) (da_cons (de_var 2) da_nil))))).toB)))).toT)) (fun _ _ _ _ _ => (de_var 4)) (own := [("k", 4), ("one", 5)]))).toE))⟩
theorem ok_find_bound (T : Tx K mg a_is_whole a_is_within a_speaking a_binds a_clash a_clashes a_binding a_find_bound a_is_binding a_judge_bound a_law_cell a_law_numbers a_law_same a_law_draws a_law_says a_law_tuple a_law_earlier a_law_binds a_law_binding a_law_due a_law_accepts a_law_stronger a_law_marks_hold a_law d_is_whole d_is_within d_speaking d_binds d_clash d_clashes d_binding d_find_bound d_is_binding d_judge_bound d_law_cell d_law_numbers d_law_same d_law_draws d_law_says d_law_tuple d_law_earlier d_law_binds d_law_binding d_law_due d_law_accepts d_law_stronger d_law_marks_hold d_law) : FnOk P w K mg base CX0 4 a_find_bound d_find_bound ["sides", "earlier", "marks"] (spD false K sp_find_bound) :=
  fnD T.F_find_bound sc_find_bound sp_find_bound_len hf_find_bound fun cdv A outer s H E hr => by
    have G_binding := (ok_binding (P := P) (w := w) (base := base) T).mono (show 3 ≤ 3 by decide)
    exact ⟨_, (dss_cons (ds_set 3 sc_find_bound.nd (de_call G_binding hr T.g_binding T.F_binding.kp T.b_binding (da_cons (de_var 0) (da_cons (de_var 1) (da_cons (de_var 2) (da_cons de_int da_nil))))))
  (dss_cons (ds_set 4 sc_find_bound.nd (de_call G_binding hr T.g_binding T.F_binding.kp T.b_binding (da_cons (de_var 0) (da_cons (de_var 1) (da_cons (de_var 2) (da_cons de_int da_nil))))))
  (dss_cons (ds_if ((dw_and (dt_tru ((de_var 3)).toB) (dw_and1 (dt_tru ((de_var 4)).toB)))).toT
  (dss_one (ds_ret (de_tup (da_cons de_str (da_cons (de_ix x_seq d_ix ((de_var 3)).toB (de_int).toB) (da_cons (de_ix x_seq d_ix ((de_var 4)).toB (de_int).toB) da_nil))))))
  dss_nil)
  (dss_cons (ds_if (dt_tru ((de_var 3)).toB)
  (dss_one (ds_ret (de_tup (da_cons de_str (da_cons de_int (da_cons (de_ix x_seq d_ix ((de_var 3)).toB (de_int).toB) da_nil))))))
  dss_nil)
  (dss_cons (ds_if (dt_tru ((de_var 4)).toB)
  (dss_one (ds_ret (de_tup (da_cons de_str (da_cons de_int (da_cons (de_ix x_seq d_ix ((de_var 4)).toB (de_int).toB) da_nil))))))
  dss_nil)
  (dss_one (ds_ret (de_tup (da_cons de_str (da_cons de_int da_nil))))))))))⟩
theorem ok_is_binding (T : Tx K mg a_is_whole a_is_within a_speaking a_binds a_clash a_clashes a_binding a_find_bound a_is_binding a_judge_bound a_law_cell a_law_numbers a_law_same a_law_draws a_law_says a_law_tuple a_law_earlier a_law_binds a_law_binding a_law_due a_law_accepts a_law_stronger a_law_marks_hold a_law d_is_whole d_is_within d_speaking d_binds d_clash d_clashes d_binding d_find_bound d_is_binding d_judge_bound d_law_cell d_law_numbers d_law_same d_law_draws d_law_says d_law_tuple d_law_earlier d_law_binds d_law_binding d_law_due d_law_accepts d_law_stronger d_law_marks_hold d_law) : FnOk P w K mg base CX0 3 a_is_binding d_is_binding ["sides", "earlier", "marks", "answer", "k"] (spD false K sp_is_binding) :=
  fnD T.F_is_binding sc_is_binding sp_is_binding_len hf_is_binding fun cdv A outer s H E hr => by
    have G_binds := (ok_binds (P := P) (w := w) (base := base) T).mono (show 2 ≤ 2 by decide)
    have G_is_within := (ok_is_within (P := P) (w := w) (base := base) T).mono (show 2 ≤ 2 by decide)
    exact ⟨_, (dss_one (ds_ret (de_and (de_call G_is_within hr T.g_is_within T.F_is_within.kp T.b_is_within (da_cons (de_var 4) (da_cons de_int (da_cons (de_op o_sub d_sub ((de_blt c_len d_len T.m_len (dab_cons ((de_var 1)).toB dab_nil))).toB (de_int).toB) da_nil)))) (de_and (de_cmp (o_eq hr) d_eq ((de_ix x_seq d_ix ((de_ix x_seq d_ix ((de_var 1)).toB ((de_var 4)).toB)).toB (de_int).toB)).toB ((de_var 3)).toB (nomark _)) (de_one (de_call G_binds hr T.g_binds T.F_binds.kp T.b_binds (da_cons (de_var 0) (da_cons (de_ix x_seq d_ix ((de_var 1)).toB ((de_var 4)).toB) (da_cons (de_var 2) da_nil)))))))))⟩
theorem ok_judge_bound (T : Tx K mg a_is_whole a_is_within a_speaking a_binds a_clash a_clashes a_binding a_find_bound a_is_binding a_judge_bound a_law_cell a_law_numbers a_law_same a_law_draws a_law_says a_law_tuple a_law_earlier a_law_binds a_law_binding a_law_due a_law_accepts a_law_stronger a_law_marks_hold a_law d_is_whole d_is_within d_speaking d_binds d_clash d_clashes d_binding d_find_bound d_is_binding d_judge_bound d_law_cell d_law_numbers d_law_same d_law_draws d_law_says d_law_tuple d_law_earlier d_law_binds d_law_binding d_law_due d_law_accepts d_law_stronger d_law_marks_hold d_law) : FnOk P w K mg base CX0 4 a_judge_bound d_judge_bound ["sides", "earlier", "marks", "verdict"] (spD false K sp_judge_bound) :=
  fnD T.F_judge_bound sc_judge_bound sp_judge_bound_len hf_judge_bound fun cdv A outer s H E hr => by
    have G_binding := (ok_binding (P := P) (w := w) (base := base) T).mono (show 3 ≤ 3 by decide)
    have G_binds := (ok_binds (P := P) (w := w) (base := base) T).mono (show 2 ≤ 3 by decide)
    have G_is_binding := (ok_is_binding (P := P) (w := w) (base := base) T).mono (show 3 ≤ 3 by decide)
    exact ⟨_, (dss_cons (ds_if ((dw_and (dt_cmp (o_eq hr) d_eq ((de_blt c_len d_len T.m_len (dab_cons ((de_var 3)).toB dab_nil))).toB (de_int).toB (nomark _)) (dw_and1 (dt_cmp (o_eq hr) d_eq ((de_ix x_seq d_ix ((de_var 3)).toB (de_int).toB)).toB (de_str).toB (nomark _))))).toT
  (dss_one (ds_ret (de_and (de_cmp (o_eq hr) d_eq ((de_ix x_seq d_ix ((de_var 3)).toB (de_int).toB)).toB (de_int).toB (nomark _)) (de_one (de_notT ((de_blt (c_any rfl) d_anyB T.m_any (dab_cons ((df_lc rfl sc_judge_bound.nd (di_seq (de_var 1)) (blk_ok ["sides", "earlier", "marks", "verdict", "word", "one", "other"] (defScope s_judge_bound) (by decide +kernel)) (fun _ _ _ _ _ => (dg_name 5 sc_judge_bound.nd)) (fun _ _ _ _ _ => dts_nil) (fun _ _ _ _ _ => (de_call G_binds hr T.g_binds T.F_binds.kp T.b_binds (da_cons (de_var 0) (da_cons (de_var 5) (da_cons (de_var 2) da_nil))))) (own := [("one", 5)]))).toB dab_nil))).toB)))))
  dss_nil)
  (dss_cons (ds_if (dt_cmp (o_ne hr) d_ne ((de_blt c_len d_len T.m_len (dab_cons ((de_var 3)).toB dab_nil))).toB (de_int).toB (nomark _))
  (dss_one (ds_ret de_bl))
  dss_nil)
  (dss_cons (ds_asg (de_var 3) (dg_tup rfl (dgs_cons (dg_name 4 sc_judge_bound.nd) (dgs_cons (dg_name 5 sc_judge_bound.nd) (dgs_cons (dg_name 6 sc_judge_bound.nd) dgs_nil)))))
  (dss_cons (ds_if (dt_cmp (o_eq hr) d_eq ((de_var 4)).toB (de_str).toB (nomark _))
  (dss_one (ds_ret (de_and (de_call G_is_binding hr T.g_is_binding T.F_is_binding.kp T.b_is_binding (da_cons (de_var 0) (da_cons (de_var 1) (da_cons (de_var 2) (da_cons de_int (da_cons (de_var 5) da_nil)))))) (de_one (de_call G_is_binding hr T.g_is_binding T.F_is_binding.kp T.b_is_binding (da_cons (de_var 0) (da_cons (de_var 1) (da_cons (de_var 2) (da_cons de_int (da_cons (de_var 6) da_nil))))))))))
  dss_nil)
  (dss_cons (ds_if ((dw_or (dt_cmp (o_ne hr) d_ne ((de_var 4)).toB (de_str).toB (nomark _)) (dw_or1 (dt_not (dt_tru ((de_call G_is_binding hr T.g_is_binding T.F_is_binding.kp T.b_is_binding (da_cons (de_var 0) (da_cons (de_var 1) (da_cons (de_var 2) (da_cons (de_var 5) (da_cons (de_var 6) da_nil))))))).toB))))).toT
  (dss_one (ds_ret de_bl))
  dss_nil)
  (dss_one (ds_ret (de_notT ((de_call G_binding hr T.g_binding T.F_binding.kp T.b_binding (da_cons (de_var 0) (da_cons (de_var 1) (da_cons (de_var 2) (da_cons (de_op o_sub d_sub (de_int).toB ((de_var 5)).toB) da_nil)))))).toB))))))))⟩
theorem ok_law_cell (T : Tx K mg a_is_whole a_is_within a_speaking a_binds a_clash a_clashes a_binding a_find_bound a_is_binding a_judge_bound a_law_cell a_law_numbers a_law_same a_law_draws a_law_says a_law_tuple a_law_earlier a_law_binds a_law_binding a_law_due a_law_accepts a_law_stronger a_law_marks_hold a_law d_is_whole d_is_within d_speaking d_binds d_clash d_clashes d_binding d_find_bound d_is_binding d_judge_bound d_law_cell d_law_numbers d_law_same d_law_draws d_law_says d_law_tuple d_law_earlier d_law_binds d_law_binding d_law_due d_law_accepts d_law_stronger d_law_marks_hold d_law) : FnOk P w K mg base CX0 1 a_law_cell d_law_cell ["script", "k"] (spD false K sp_law_cell) :=
  fnD T.F_law_cell sc_law_cell sp_law_cell_len hf_law_cell fun cdv A outer s H E hr => by
    exact ⟨_, (dss_cons (ds_if (dt_cmp o_lt d_lt ((de_var 1)).toB ((de_blt c_len d_len T.m_len (dab_cons ((de_var 0)).toB dab_nil))).toB (nomark _))
  (dss_one (ds_ret (de_ty c_int d_int T.m_int (dab_cons ((de_ix x_seq d_ix ((de_var 0)).toB ((de_var 1)).toB)).toB dab_nil))))
  dss_nil)
  (dss_one (ds_ret de_int)))⟩
theorem ok_law_numbers (T : Tx K mg a_is_whole a_is_within a_speaking a_binds a_clash a_clashes a_binding a_find_bound a_is_binding a_judge_bound a_law_cell a_law_numbers a_law_same a_law_draws a_law_says a_law_tuple a_law_earlier a_law_binds a_law_binding a_law_due a_law_accepts a_law_stronger a_law_marks_hold a_law d_is_whole d_is_within d_speaking d_binds d_clash d_clashes d_binding d_find_bound d_is_binding d_judge_bound d_law_cell d_law_numbers d_law_same d_law_draws d_law_says d_law_tuple d_law_earlier d_law_binds d_law_binding d_law_due d_law_accepts d_law_stronger d_law_marks_hold d_law) : FnOk P w K mg base CX0 1 a_law_numbers d_law_numbers ["cell", "count", "limit"] (spD false K sp_law_numbers) :=
  fnD T.F_law_numbers sc_law_numbers sp_law_numbers_len hf_law_numbers fun cdv A outer s H E hr => by
    exact ⟨_, (dss_cons (ds_own 3 sc_law_numbers.nd (df_lst da_nil))
  (dss_cons (ds_if (dt_cmp o_ge d_ge ((de_var 0)).toB ((de_op o_pow d_pow (de_int).toB (de_int).toB)).toB (nomark _))
  (dss_cons (ds_for PassesOwn.never rfl (di_range1 T.m_range (da_cons (de_var 1) da_nil)) (dg_name 4 sc_law_numbers.nd)
  (dss_cons (ds_app 3 (de_op o_mod d_mod ((de_ty c_int d_int T.m_int (dab_cons ((de_var 0)).toB dab_nil))).toB ((de_var 2)).toB))
  (dss_one (ds_set 0 sc_law_numbers.nd (de_op o_div d_div ((de_ty c_int d_int T.m_int (dab_cons ((de_var 0)).toB dab_nil))).toB ((de_var 2)).toB)))))
  (dss_one (ds_retV 3)))
  dss_nil)
  (dss_cons (ds_for PassesOwn.never rfl (di_range1 T.m_range (da_cons (de_var 1) da_nil)) (dg_name 4 sc_law_numbers.nd)
  (dss_cons (ds_set 5 sc_law_numbers.nd (de_op o_mod d_mod ((de_ty c_int d_int T.m_int (dab_cons ((de_op o_add d_add ((de_op o_add d_add ((de_op o_mul d_mul ((de_var 0)).toB (de_int).toB)).toB ((de_op o_mul d_mul ((de_var 4)).toB (de_int).toB)).toB)).toB (de_int).toB)).toB dab_nil))).toB (de_int).toB))
  (dss_cons (ds_set 5 sc_law_numbers.nd (de_op o_mod d_mod ((de_ty c_int d_int T.m_int (dab_cons ((de_op o_add d_add ((de_op o_add d_add ((de_op o_add d_add ((de_op o_mul d_mul ((de_var 5)).toB ((de_var 5)).toB)).toB ((de_op o_mul d_mul ((de_var 5)).toB (de_int).toB)).toB)).toB ((de_op o_mul d_mul ((de_var 4)).toB (de_int).toB)).toB)).toB (de_int).toB)).toB dab_nil))).toB (de_int).toB))
  (dss_one (ds_app 3 (de_op o_mod d_mod ((de_ty c_int d_int T.m_int (dab_cons ((de_op o_div d_div ((de_var 5)).toB (de_int).toB)).toB dab_nil))).toB ((de_var 2)).toB))))))
  (dss_one (ds_retV 3)))))⟩
theorem ok_law_same_rec (T : Tx K mg a_is_whole a_is_within a_speaking a_binds a_clash a_clashes a_binding a_find_bound a_is_binding a_judge_bound a_law_cell a_law_numbers a_law_same a_law_draws a_law_says a_law_tuple a_law_earlier a_law_binds a_law_binding a_law_due a_law_accepts a_law_stronger a_law_marks_hold a_law d_is_whole d_is_within d_speaking d_binds d_clash d_clashes d_binding d_find_bound d_is_binding d_judge_bound d_law_cell d_law_numbers d_law_same d_law_draws d_law_says d_law_tuple d_law_earlier d_law_binds d_law_binding d_law_due d_law_accepts d_law_stronger d_law_marks_hold d_law) : ∀ n : Nat, FnOk P w K mg base CX0 (n + 1) a_law_same d_law_same ["told", "due"] (spD false K (sp_law_same_n n))
  | 0 => fnD T.F_law_same sc_law_same sp_law_same_len (hf_law_same 0) fun cdv A outer s H E hr => by
    have G_law_same : FnOk P w K mg base CX0 0 a_law_same d_law_same ["told", "due"] (spD false K fun _ _ => False) := ⟨fun vs H Q E h => (let ⟨_, _, _, _, _, z, _⟩ := h; z.elim), fun A outer s H args us vs Q E hr he hb hv h => (let ⟨_, _, _, _, _, z, _⟩ := h; z.elim)⟩
    exact ⟨_, (dss_cons (ds_if (dt_tru ((de_isi (T := "list") ((de_var 1)).toB T.m_isinstance T.m_list (by decide +kernel) kit_list)).toB)
  (dss_one (ds_if ((dw_or (dt_not (dt_tru ((de_isi (T := "list") ((de_var 0)).toB T.m_isinstance T.m_list (by decide +kernel) kit_list)).toB)) (dw_or1 (dt_cmp (o_ne hr) d_ne ((de_blt c_len d_len T.m_len (dab_cons ((de_var 0)).toB dab_nil))).toB ((de_blt c_len d_len T.m_len (dab_cons ((de_var 1)).toB dab_nil))).toB (nomark _))))).toT
  (dss_one (ds_ret de_bl))
  dss_nil))
  (dss_one (ds_if (dt_tru ((de_isi (T := "tuple") ((de_var 1)).toB T.m_isinstance T.m_tuple (by decide +kernel) kit_tuple)).toB)
  (dss_one (ds_if ((dw_or (dt_not (dt_tru ((de_isi (T := "tuple") ((de_var 0)).toB T.m_isinstance T.m_tuple (by decide +kernel) kit_tuple)).toB)) (dw_or1 (dt_cmp (o_ne hr) d_ne ((de_blt c_len d_len T.m_len (dab_cons ((de_var 0)).toB dab_nil))).toB ((de_blt c_len d_len T.m_len (dab_cons ((de_var 1)).toB dab_nil))).toB (nomark _))))).toT
  (dss_one (ds_ret de_bl))
  dss_nil))
  (dss_one (ds_if (dt_isN ((de_var 1)).toB)
  (dss_one (ds_ret (de_isN ((de_var 0)).toB)))
  (dss_one (ds_if (dt_tru ((de_isi (T := "bool") ((de_var 1)).toB T.m_isinstance T.m_bool (by decide +kernel) kit_bool)).toB)
  (dss_one (ds_ret (de_and (de_isi (T := "bool") ((de_var 0)).toB T.m_isinstance T.m_bool (by decide +kernel) kit_bool) (de_one (de_cmp (o_eq hr) d_eq ((de_var 0)).toB ((de_var 1)).toB (nomark _))))))
  (dss_one (ds_if (dt_tru ((de_isi (T := "int") ((de_var 1)).toB T.m_isinstance T.m_int (by decide +kernel) kit_int)).toB)
  (dss_one (ds_ret (de_and (de_isi (T := "int") ((de_var 0)).toB T.m_isinstance T.m_int (by decide +kernel) kit_int) (de_and (de_notT ((de_isi (T := "bool") ((de_var 0)).toB T.m_isinstance T.m_bool (by decide +kernel) kit_bool)).toB) (de_one (de_cmp (o_eq hr) d_eq ((de_var 0)).toB ((de_var 1)).toB (nomark _)))))))
  (dss_one (ds_ret (de_and (de_isi (T := "str") ((de_var 0)).toB T.m_isinstance T.m_str (by decide +kernel) kit_str) (de_one (de_cmp (o_eq hr) d_eq ((de_var 0)).toB ((de_var 1)).toB (nomark _)))))))))))))))
  (dss_cons (ds_for PassesOwn.never rfl (di_range1 T.m_range (da_cons (de_blt c_len d_len T.m_len (dab_cons ((de_var 1)).toB dab_nil)) da_nil)) (dg_name 2 sc_law_same.nd)
  (dss_one (ds_if (dt_not (dt_tru ((de_call G_law_same hr T.g_law_same T.F_law_same.kp T.b_law_same (da_cons (de_ix x_seq d_ix ((de_var 0)).toB ((de_var 2)).toB) (da_cons (de_ix x_seq d_ix ((de_var 1)).toB ((de_var 2)).toB) da_nil)))).toB))
  (dss_one (ds_ret de_bl))
  dss_nil)))
  (dss_one (ds_ret de_bl))))⟩
  | n + 1 => fnD T.F_law_same sc_law_same sp_law_same_len (hf_law_same (n + 1)) fun cdv A outer s H E hr => by
    have G_law_same := ok_law_same_rec T n
    exact ⟨_, (dss_cons (ds_if (dt_tru ((de_isi (T := "list") ((de_var 1)).toB T.m_isinstance T.m_list (by decide +kernel) kit_list)).toB)
  (dss_one (ds_if ((dw_or (dt_not (dt_tru ((de_isi (T := "list") ((de_var 0)).toB T.m_isinstance T.m_list (by decide +kernel) kit_list)).toB)) (dw_or1 (dt_cmp (o_ne hr) d_ne ((de_blt c_len d_len T.m_len (dab_cons ((de_var 0)).toB dab_nil))).toB ((de_blt c_len d_len T.m_len (dab_cons ((de_var 1)).toB dab_nil))).toB (nomark _))))).toT
  (dss_one (ds_ret de_bl))
  dss_nil))
  (dss_one (ds_if (dt_tru ((de_isi (T := "tuple") ((de_var 1)).toB T.m_isinstance T.m_tuple (by decide +kernel) kit_tuple)).toB)
  (dss_one (ds_if ((dw_or (dt_not (dt_tru ((de_isi (T := "tuple") ((de_var 0)).toB T.m_isinstance T.m_tuple (by decide +kernel) kit_tuple)).toB)) (dw_or1 (dt_cmp (o_ne hr) d_ne ((de_blt c_len d_len T.m_len (dab_cons ((de_var 0)).toB dab_nil))).toB ((de_blt c_len d_len T.m_len (dab_cons ((de_var 1)).toB dab_nil))).toB (nomark _))))).toT
  (dss_one (ds_ret de_bl))
  dss_nil))
  (dss_one (ds_if (dt_isN ((de_var 1)).toB)
  (dss_one (ds_ret (de_isN ((de_var 0)).toB)))
  (dss_one (ds_if (dt_tru ((de_isi (T := "bool") ((de_var 1)).toB T.m_isinstance T.m_bool (by decide +kernel) kit_bool)).toB)
  (dss_one (ds_ret (de_and (de_isi (T := "bool") ((de_var 0)).toB T.m_isinstance T.m_bool (by decide +kernel) kit_bool) (de_one (de_cmp (o_eq hr) d_eq ((de_var 0)).toB ((de_var 1)).toB (nomark _))))))
  (dss_one (ds_if (dt_tru ((de_isi (T := "int") ((de_var 1)).toB T.m_isinstance T.m_int (by decide +kernel) kit_int)).toB)
  (dss_one (ds_ret (de_and (de_isi (T := "int") ((de_var 0)).toB T.m_isinstance T.m_int (by decide +kernel) kit_int) (de_and (de_notT ((de_isi (T := "bool") ((de_var 0)).toB T.m_isinstance T.m_bool (by decide +kernel) kit_bool)).toB) (de_one (de_cmp (o_eq hr) d_eq ((de_var 0)).toB ((de_var 1)).toB (nomark _)))))))
  (dss_one (ds_ret (de_and (de_isi (T := "str") ((de_var 0)).toB T.m_isinstance T.m_str (by decide +kernel) kit_str) (de_one (de_cmp (o_eq hr) d_eq ((de_var 0)).toB ((de_var 1)).toB (nomark _)))))))))))))))
  (dss_cons (ds_for PassesOwn.never rfl (di_range1 T.m_range (da_cons (de_blt c_len d_len T.m_len (dab_cons ((de_var 1)).toB dab_nil)) da_nil)) (dg_name 2 sc_law_same.nd)
  (dss_one (ds_if (dt_not (dt_tru ((de_call G_law_same hr T.g_law_same T.F_law_same.kp T.b_law_same (da_cons (de_ix x_seq d_ix ((de_var 0)).toB ((de_var 2)).toB) (da_cons (de_ix x_seq d_ix ((de_var 1)).toB ((de_var 2)).toB) da_nil)))).toB))
  (dss_one (ds_ret de_bl))
  dss_nil)))
  (dss_one (ds_ret de_bl))))⟩
theorem ok_law_same (T : Tx K mg a_is_whole a_is_within a_speaking a_binds a_clash a_clashes a_binding a_find_bound a_is_binding a_judge_bound a_law_cell a_law_numbers a_law_same a_law_draws a_law_says a_law_tuple a_law_earlier a_law_binds a_law_binding a_law_due a_law_accepts a_law_stronger a_law_marks_hold a_law d_is_whole d_is_within d_speaking d_binds d_clash d_clashes d_binding d_find_bound d_is_binding d_judge_bound d_law_cell d_law_numbers d_law_same d_law_draws d_law_says d_law_tuple d_law_earlier d_law_binds d_law_binding d_law_due d_law_accepts d_law_stronger d_law_marks_hold d_law) : FnOk P w K mg base CX0 9 a_law_same d_law_same ["told", "due"] (spD false K sp_law_same) := ok_law_same_rec T 8
theorem ok_law_draws (T : Tx K mg a_is_whole a_is_within a_speaking a_binds a_clash a_clashes a_binding a_find_bound a_is_binding a_judge_bound a_law_cell a_law_numbers a_law_same a_law_draws a_law_says a_law_tuple a_law_earlier a_law_binds a_law_binding a_law_due a_law_accepts a_law_stronger a_law_marks_hold a_law d_is_whole d_is_within d_speaking d_binds d_clash d_clashes d_binding d_find_bound d_is_binding d_judge_bound d_law_cell d_law_numbers d_law_same d_law_draws d_law_says d_law_tuple d_law_earlier d_law_binds d_law_binding d_law_due d_law_accepts d_law_stronger d_law_marks_hold d_law) : FnOk P w K mg base CX0 2 a_law_draws d_law_draws ["script", "k", "count"] (spD false K sp_law_draws) :=
  fnD T.F_law_draws sc_law_draws sp_law_draws_len hf_law_draws fun cdv A outer s H E hr => by
    have G_law_cell := (ok_law_cell (P := P) (w := w) (base := base) T).mono (show 1 ≤ 1 by decide)
    have G_law_numbers := (ok_law_numbers (P := P) (w := w) (base := base) T).mono (show 1 ≤ 1 by decide)
    exact ⟨_, (dss_one (ds_ret (de_call G_law_numbers hr T.g_law_numbers T.F_law_numbers.kp T.b_law_numbers (da_cons (de_op o_add d_add ((de_call G_law_cell hr T.g_law_cell T.F_law_cell.kp T.b_law_cell (da_cons (de_var 0) (da_cons (de_var 1) da_nil)))).toB ((de_op o_mul d_mul (de_int).toB ((de_var 1)).toB)).toB) (da_cons (de_var 2) (da_cons de_int da_nil))))))⟩
theorem ok_law_says (T : Tx K mg a_is_whole a_is_within a_speaking a_binds a_clash a_clashes a_binding a_find_bound a_is_binding a_judge_bound a_law_cell a_law_numbers a_law_same a_law_draws a_law_says a_law_tuple a_law_earlier a_law_binds a_law_binding a_law_due a_law_accepts a_law_stronger a_law_marks_hold a_law d_is_whole d_is_within d_speaking d_binds d_clash d_clashes d_binding d_find_bound d_is_binding d_judge_bound d_law_cell d_law_numbers d_law_same d_law_draws d_law_says d_law_tuple d_law_earlier d_law_binds d_law_binding d_law_due d_law_accepts d_law_stronger d_law_marks_hold d_law) : FnOk P w K mg base CX0 1 a_law_says d_law_says ["told", "due"] (spD false K sp_law_says) :=
  fnD T.F_law_says sc_law_says sp_law_says_len hf_law_says fun cdv A outer s H E hr => by
    exact ⟨_, (dss_one (ds_ret (de_and (de_isi (T := "bool") ((de_var 0)).toB T.m_isinstance T.m_bool (by decide +kernel) kit_bool) (de_one (de_cmp (o_eq hr) d_eq ((de_var 0)).toB ((de_var 1)).toB (nomark _))))))⟩
theorem ok_law_tuple (T : Tx K mg a_is_whole a_is_within a_speaking a_binds a_clash a_clashes a_binding a_find_bound a_is_binding a_judge_bound a_law_cell a_law_numbers a_law_same a_law_draws a_law_says a_law_tuple a_law_earlier a_law_binds a_law_binding a_law_due a_law_accepts a_law_stronger a_law_marks_hold a_law d_is_whole d_is_within d_speaking d_binds d_clash d_clashes d_binding d_find_bound d_is_binding d_judge_bound d_law_cell d_law_numbers d_law_same d_law_draws d_law_says d_law_tuple d_law_earlier d_law_binds d_law_binding d_law_due d_law_accepts d_law_stronger d_law_marks_hold d_law) : FnOk P w K mg base CX0 1 a_law_tuple d_law_tuple ["draw", "count"] (spD false K sp_law_tuple) :=
  fnD T.F_law_tuple sc_law_tuple sp_law_tuple_len hf_law_tuple fun cdv A outer s H E hr => by
    exact ⟨_, (dss_cons (ds_own 2 sc_law_tuple.nd (df_lst da_nil))
  (dss_cons (ds_for PassesOwn.never rfl (di_range1 T.m_range (da_cons (de_var 1) da_nil)) (dg_name 3 sc_law_tuple.nd)
  (dss_one (ds_if (dt_cmp (o_eq hr) d_eq ((de_op o_mod d_mod ((de_ty c_int d_int T.m_int (dab_cons ((de_op o_div d_div ((de_var 0)).toB ((de_ix x_seq d_ix ((df_lst (da_cons de_int (da_cons de_int (da_cons de_int (da_cons de_int (da_cons de_int (da_cons de_int (da_cons de_int (da_cons de_int (da_cons de_int (da_cons de_int (da_cons de_int (da_cons de_int da_nil)))))))))))))).toB ((de_var 3)).toB)).toB)).toB dab_nil))).toB (de_int).toB)).toB (de_int).toB (nomark _))
  (dss_one (ds_app 2 (de_var 3)))
  dss_nil)))
  (ds_frz 2 (dss_one (ds_ret (de_ty c_tuple d_tuple T.m_tuple (dab_cons ((de_var 2)).toB dab_nil)))))))⟩
theorem ok_law_earlier (T : Tx K mg a_is_whole a_is_within a_speaking a_binds a_clash a_clashes a_binding a_find_bound a_is_binding a_judge_bound a_law_cell a_law_numbers a_law_same a_law_draws a_law_says a_law_tuple a_law_earlier a_law_binds a_law_binding a_law_due a_law_accepts a_law_stronger a_law_marks_hold a_law d_is_whole d_is_within d_speaking d_binds d_clash d_clashes d_binding d_find_bound d_is_binding d_judge_bound d_law_cell d_law_numbers d_law_same d_law_draws d_law_says d_law_tuple d_law_earlier d_law_binds d_law_binding d_law_due d_law_accepts d_law_stronger d_law_marks_hold d_law) : FnOk P w K mg base CX0 3 a_law_earlier d_law_earlier ["script", "sides", "draws"] (spD false K sp_law_earlier) :=
  fnD T.F_law_earlier sc_law_earlier sp_law_earlier_len hf_law_earlier fun cdv A outer s H E hr => by
    have G_law_draws := (ok_law_draws (P := P) (w := w) (base := base) T).mono (show 2 ≤ 2 by decide)
    have G_law_tuple := (ok_law_tuple (P := P) (w := w) (base := base) T).mono (show 1 ≤ 2 by decide)
    exact ⟨_, (dss_cons (ds_set 3 sc_law_earlier.nd (de_call G_law_draws hr T.g_law_draws T.F_law_draws.kp T.b_law_draws (da_cons (de_var 0) (da_cons de_int (da_cons de_int da_nil)))))
  (dss_cons (ds_own 4 sc_law_earlier.nd (df_lst da_nil))
  (dss_cons (ds_for PassesOwn.never rfl (di_range1 T.m_range (da_cons (de_op o_add d_add (de_int).toB ((de_op o_mod d_mod ((de_ix x_seq d_ix ((de_var 2)).toB (de_int).toB)).toB (de_int).toB)).toB) da_nil)) (dg_name 5 sc_law_earlier.nd)
  (dss_cons (ds_set 6 sc_law_earlier.nd (de_call G_law_tuple hr T.g_law_tuple T.F_law_tuple.kp T.b_law_tuple (da_cons (de_ix x_seq d_ix ((de_var 3)).toB ((de_var 5)).toB) (da_cons (de_blt c_len d_len T.m_len (dab_cons ((de_var 1)).toB dab_nil)) da_nil))))
  (dss_cons (ds_set 7 sc_law_earlier.nd (de_blt c_len d_len T.m_len (dab_cons ((df_lc rfl sc_law_earlier.nd (di_seq (de_var 6)) (blk_ok ["script", "sides", "draws", "cells", "found", "k", "marks", "yes", "answer", "mark"] (defScope s_law_earlier) (by decide +kernel)) (fun _ _ _ _ _ => (dg_name 9 sc_law_earlier.nd)) (fun _ _ _ _ _ => (dts_one (dt_cmp (o_eq hr) d_eq ((de_ix x_seq d_ix ((de_var 1)).toB ((de_var 9)).toB)).toB (de_int).toB (nomark _)))) (fun _ _ _ _ _ => (de_var 9)) (own := [("mark", 9)]))).toB dab_nil)))
  (dss_cons (ds_set 8 sc_law_earlier.nd (de_ty c_int d_int T.m_int (dab_cons ((de_cmp o_gt d_gt ((de_op o_mul d_mul (de_int).toB ((de_var 7)).toB)).toB ((de_blt c_len d_len T.m_len (dab_cons ((de_var 6)).toB dab_nil))).toB (nomark _))).toB dab_nil)))
  (dss_cons (ds_if ((dw_and (dt_cmp (o_eq hr) d_eq ((de_op o_mod d_mod ((de_ix x_seq d_ix ((de_var 2)).toB (de_int).toB)).toB (de_int).toB)).toB (de_int).toB (nomark _)) (dw_and1 (dt_cmp (o_eq hr) d_eq ((de_op o_mod d_mod ((de_var 5)).toB (de_int).toB)).toB (de_int).toB (nomark _))))).toT
  (dss_one (ds_set 8 sc_law_earlier.nd (de_op o_sub d_sub (de_int).toB ((de_var 8)).toB)))
  dss_nil)
  (dss_one (ds_app 4 (de_tup (da_cons (de_var 6) (da_cons (de_var 8) da_nil))))))))))
  (dss_one (ds_retV 4)))))⟩
theorem ok_law_binds (T : Tx K mg a_is_whole a_is_within a_speaking a_binds a_clash a_clashes a_binding a_find_bound a_is_binding a_judge_bound a_law_cell a_law_numbers a_law_same a_law_draws a_law_says a_law_tuple a_law_earlier a_law_binds a_law_binding a_law_due a_law_accepts a_law_stronger a_law_marks_hold a_law d_is_whole d_is_within d_speaking d_binds d_clash d_clashes d_binding d_find_bound d_is_binding d_judge_bound d_law_cell d_law_numbers d_law_same d_law_draws d_law_says d_law_tuple d_law_earlier d_law_binds d_law_binding d_law_due d_law_accepts d_law_stronger d_law_marks_hold d_law) : FnOk P w K mg base CX0 1 a_law_binds d_law_binds ["sides", "one", "marks"] (spD false K sp_law_binds) :=
  fnD T.F_law_binds sc_law_binds sp_law_binds_len hf_law_binds fun cdv A outer s H E hr => by
    exact ⟨_, (dss_cons (ds_setLc 3 rfl sc_law_binds.nd (di_seq (de_ix x_seq d_ix ((de_var 1)).toB (de_int).toB)) (blk_ok ["sides", "one", "marks", "lacking", "other", "mark"] (defScope s_law_binds) (by decide +kernel)) (fun _ _ _ _ _ => (dg_name 5 sc_law_binds.nd)) (fun _ _ _ _ _ => (dts_one ((dw_and (dt_cmp (o_eq hr) d_eq ((de_ix x_seq d_ix ((de_var 0)).toB ((de_var 5)).toB)).toB ((de_ix x_seq d_ix ((de_var 1)).toB (de_int).toB)).toB (nomark _)) (dw_and1 (dt_cmp (o_notIn hr) d_notIn ((de_var 5)).toB ((de_var 2)).toB (by with_unfolding_all rfl))))).toT)) (fun _ _ _ _ _ => (de_var 5)) (own := [("mark", 5)]))
  (dss_cons (ds_setLc 4 rfl sc_law_binds.nd (di_seq (de_var 2)) (blk_ok ["sides", "one", "marks", "lacking", "other", "mark"] (defScope s_law_binds) (by decide +kernel)) (fun _ _ _ _ _ => (dg_name 5 sc_law_binds.nd)) (fun _ _ _ _ _ => (dts_one ((dw_and (dt_cmp (o_ne hr) d_ne ((de_ix x_seq d_ix ((de_var 0)).toB ((de_var 5)).toB)).toB ((de_ix x_seq d_ix ((de_var 1)).toB (de_int).toB)).toB (nomark _)) (dw_and1 (dt_cmp (o_notIn hr) d_notIn ((de_var 5)).toB ((de_ix x_seq d_ix ((de_var 1)).toB (de_int).toB)).toB (by with_unfolding_all rfl))))).toT)) (fun _ _ _ _ _ => (de_var 5)) (own := [("mark", 5)]))
  (dss_one (ds_ret (de_cmp (o_eq hr) d_eq ((de_op o_add d_add ((de_blt c_len d_len T.m_len (dab_cons ((de_var 3)).toB dab_nil))).toB ((de_blt c_len d_len T.m_len (dab_cons ((de_var 4)).toB dab_nil))).toB)).toB (de_int).toB (nomark _))))))⟩
theorem ok_law_binding (T : Tx K mg a_is_whole a_is_within a_speaking a_binds a_clash a_clashes a_binding a_find_bound a_is_binding a_judge_bound a_law_cell a_law_numbers a_law_same a_law_draws a_law_says a_law_tuple a_law_earlier a_law_binds a_law_binding a_law_due a_law_accepts a_law_stronger a_law_marks_hold a_law d_is_whole d_is_within d_speaking d_binds d_clash d_clashes d_binding d_find_bound d_is_binding d_judge_bound d_law_cell d_law_numbers d_law_same d_law_draws d_law_says d_law_tuple d_law_earlier d_law_binds d_law_binding d_law_due d_law_accepts d_law_stronger d_law_marks_hold d_law) : FnOk P w K mg base CX0 2 a_law_binding d_law_binding ["sides", "earlier", "marks", "answer"] (spD false K sp_law_binding) :=
  fnD T.F_law_binding sc_law_binding sp_law_binding_len hf_law_binding fun cdv A outer s H E hr => by
    have G_law_binds := (ok_law_binds (P := P) (w := w) (base := base) T).mono (show 1 ≤ 1 by decide)
    exact ⟨_, (dss_one (ds_ret ((df_lc rfl sc_law_binding.nd (di_range1 T.m_range (da_cons (de_blt c_len d_len T.m_len (dab_cons ((de_var 1)).toB dab_nil)) da_nil)) (blk_ok ["sides", "earlier", "marks", "answer", "k"] (defScope s_law_binding) (by decide +kernel)) (fun _ _ _ _ _ => (dg_name 4 sc_law_binding.nd)) (fun _ _ _ _ _ => (dts_one ((dw_and (dt_cmp (o_eq hr) d_eq ((de_ix x_seq d_ix ((de_ix x_seq d_ix ((de_var 1)).toB ((de_var 4)).toB)).toB (de_int).toB)).toB ((de_var 3)).toB (nomark _)) (dw_and1 (dt_tru ((de_call G_law_binds hr T.g_law_binds T.F_law_binds.kp T.b_law_binds (da_cons (de_var 0) (da_cons (de_ix x_seq d_ix ((de_var 1)).toB ((de_var 4)).toB) (da_cons (de_var 2) da_nil))))).toB)))).toT)) (fun _ _ _ _ _ => (de_var 4)) (own := [("k", 4)]))).toE))⟩
theorem ok_law_due (T : Tx K mg a_is_whole a_is_within a_speaking a_binds a_clash a_clashes a_binding a_find_bound a_is_binding a_judge_bound a_law_cell a_law_numbers a_law_same a_law_draws a_law_says a_law_tuple a_law_earlier a_law_binds a_law_binding a_law_due a_law_accepts a_law_stronger a_law_marks_hold a_law d_is_whole d_is_within d_speaking d_binds d_clash d_clashes d_binding d_find_bound d_is_binding d_judge_bound d_law_cell d_law_numbers d_law_same d_law_draws d_law_says d_law_tuple d_law_earlier d_law_binds d_law_binding d_law_due d_law_accepts d_law_stronger d_law_marks_hold d_law) : FnOk P w K mg base CX0 3 a_law_due d_law_due ["sides", "earlier", "marks"] (spD false K sp_law_due) :=
  fnD T.F_law_due sc_law_due sp_law_due_len hf_law_due fun cdv A outer s H E hr => by
    have G_law_binding := (ok_law_binding (P := P) (w := w) (base := base) T).mono (show 2 ≤ 2 by decide)
    exact ⟨_, (dss_cons (ds_set 3 sc_law_due.nd (de_call G_law_binding hr T.g_law_binding T.F_law_binding.kp T.b_law_binding (da_cons (de_var 0) (da_cons (de_var 1) (da_cons (de_var 2) (da_cons de_int da_nil))))))
  (dss_cons (ds_set 4 sc_law_due.nd (de_call G_law_binding hr T.g_law_binding T.F_law_binding.kp T.b_law_binding (da_cons (de_var 0) (da_cons (de_var 1) (da_cons (de_var 2) (da_cons de_int da_nil))))))
  (dss_cons (ds_if ((dw_and (dt_cmp o_gt d_gt ((de_blt c_len d_len T.m_len (dab_cons ((de_var 3)).toB dab_nil))).toB (de_int).toB (nomark _)) (dw_and1 (dt_cmp o_gt d_gt ((de_blt c_len d_len T.m_len (dab_cons ((de_var 4)).toB dab_nil))).toB (de_int).toB (nomark _))))).toT
  (dss_one (ds_ret (de_tup (da_cons de_str (da_cons (de_ix x_seq d_ix ((de_var 3)).toB (de_int).toB) (da_cons (de_ix x_seq d_ix ((de_var 4)).toB (de_int).toB) da_nil))))))
  dss_nil)
  (dss_cons (ds_if (dt_cmp o_gt d_gt ((de_blt c_len d_len T.m_len (dab_cons ((de_var 3)).toB dab_nil))).toB (de_int).toB (nomark _))
  (dss_one (ds_ret (de_tup (da_cons de_str (da_cons de_int (da_cons (de_ix x_seq d_ix ((de_var 3)).toB (de_int).toB) da_nil))))))
  dss_nil)
  (dss_cons (ds_if (dt_cmp o_gt d_gt ((de_blt c_len d_len T.m_len (dab_cons ((de_var 4)).toB dab_nil))).toB (de_int).toB (nomark _))
  (dss_one (ds_ret (de_tup (da_cons de_str (da_cons de_int (da_cons (de_ix x_seq d_ix ((de_var 4)).toB (de_int).toB) da_nil))))))
  dss_nil)
  (dss_one (ds_ret (de_tup (da_cons de_str (da_cons de_int da_nil))))))))))⟩
theorem ok_law_accepts (T : Tx K mg a_is_whole a_is_within a_speaking a_binds a_clash a_clashes a_binding a_find_bound a_is_binding a_judge_bound a_law_cell a_law_numbers a_law_same a_law_draws a_law_says a_law_tuple a_law_earlier a_law_binds a_law_binding a_law_due a_law_accepts a_law_stronger a_law_marks_hold a_law d_is_whole d_is_within d_speaking d_binds d_clash d_clashes d_binding d_find_bound d_is_binding d_judge_bound d_law_cell d_law_numbers d_law_same d_law_draws d_law_says d_law_tuple d_law_earlier d_law_binds d_law_binding d_law_due d_law_accepts d_law_stronger d_law_marks_hold d_law) : FnOk P w K mg base CX0 3 a_law_accepts d_law_accepts ["sides", "earlier", "marks", "paper"] (spD false K sp_law_accepts) :=
  fnD T.F_law_accepts sc_law_accepts sp_law_accepts_len hf_law_accepts fun cdv A outer s H E hr => by
    have G_law_binding := (ok_law_binding (P := P) (w := w) (base := base) T).mono (show 2 ≤ 2 by decide)
    exact ⟨_, (dss_cons (ds_set 4 sc_law_accepts.nd (de_call G_law_binding hr T.g_law_binding T.F_law_binding.kp T.b_law_binding (da_cons (de_var 0) (da_cons (de_var 1) (da_cons (de_var 2) (da_cons de_int da_nil))))))
  (dss_cons (ds_set 5 sc_law_accepts.nd (de_call G_law_binding hr T.g_law_binding T.F_law_binding.kp T.b_law_binding (da_cons (de_var 0) (da_cons (de_var 1) (da_cons (de_var 2) (da_cons de_int da_nil))))))
  (dss_cons (ds_if (dt_cmp (o_eq hr) d_eq ((de_blt c_len d_len T.m_len (dab_cons ((de_var 3)).toB dab_nil))).toB (de_int).toB (nomark _))
  (dss_one (ds_ret (de_and (de_cmp (o_eq hr) d_eq ((de_var 3)).toB ((de_tup (da_cons de_str (da_cons de_int da_nil)))).toB (nomark _)) (de_one (de_cmp (o_eq hr) d_eq ((de_op o_add d_add ((de_blt c_len d_len T.m_len (dab_cons ((de_var 4)).toB dab_nil))).toB ((de_blt c_len d_len T.m_len (dab_cons ((de_var 5)).toB dab_nil))).toB)).toB (de_int).toB (nomark _))))))
  dss_nil)
  (dss_cons (ds_if (dt_cmp (o_ne hr) d_ne ((de_blt c_len d_len T.m_len (dab_cons ((de_var 3)).toB dab_nil))).toB (de_int).toB (nomark _))
  (dss_one (ds_ret de_bl))
  dss_nil)
  (dss_cons (ds_if (dt_cmp (o_eq hr) d_eq ((de_ix x_seq d_ix ((de_var 3)).toB (de_int).toB)).toB (de_str).toB (nomark _))
  (dss_one (ds_ret (de_and (de_cmp (o_in hr) d_in ((de_ix x_seq d_ix ((de_var 3)).toB (de_int).toB)).toB ((de_var 4)).toB (by with_unfolding_all rfl)) (de_one (de_cmp (o_in hr) d_in ((de_ix x_seq d_ix ((de_var 3)).toB (de_int).toB)).toB ((de_var 5)).toB (by with_unfolding_all rfl))))))
  dss_nil)
  (dss_cons (ds_if ((dw_or (dt_cmp (o_ne hr) d_ne ((de_ix x_seq d_ix ((de_var 3)).toB (de_int).toB)).toB (de_str).toB (nomark _)) (dw_or1 ((dw_and (dt_cmp o_gt d_gt ((de_blt c_len d_len T.m_len (dab_cons ((de_var 4)).toB dab_nil))).toB (de_int).toB (nomark _)) (dw_and1 (dt_cmp o_gt d_gt ((de_blt c_len d_len T.m_len (dab_cons ((de_var 5)).toB dab_nil))).toB (de_int).toB (nomark _))))).toT))).toT
  (dss_one (ds_ret de_bl))
  dss_nil)
  (dss_one (ds_ret (de_or (de_and (de_cmp (o_eq hr) d_eq ((de_ix x_seq d_ix ((de_var 3)).toB (de_int).toB)).toB (de_int).toB (nomark _)) (de_one (de_cmp (o_in hr) d_in ((de_ix x_seq d_ix ((de_var 3)).toB (de_int).toB)).toB ((de_var 4)).toB (by with_unfolding_all rfl)))) (de_one (de_and (de_cmp (o_eq hr) d_eq ((de_ix x_seq d_ix ((de_var 3)).toB (de_int).toB)).toB (de_int).toB (nomark _)) (de_one (de_cmp (o_in hr) d_in ((de_ix x_seq d_ix ((de_var 3)).toB (de_int).toB)).toB ((de_var 5)).toB (by with_unfolding_all rfl))))))))))))))⟩
theorem ok_law_stronger (T : Tx K mg a_is_whole a_is_within a_speaking a_binds a_clash a_clashes a_binding a_find_bound a_is_binding a_judge_bound a_law_cell a_law_numbers a_law_same a_law_draws a_law_says a_law_tuple a_law_earlier a_law_binds a_law_binding a_law_due a_law_accepts a_law_stronger a_law_marks_hold a_law d_is_whole d_is_within d_speaking d_binds d_clash d_clashes d_binding d_find_bound d_is_binding d_judge_bound d_law_cell d_law_numbers d_law_same d_law_draws d_law_says d_law_tuple d_law_earlier d_law_binds d_law_binding d_law_due d_law_accepts d_law_stronger d_law_marks_hold d_law) : FnOk P w K mg base CX0 1 a_law_stronger d_law_stronger ["sides", "one", "draw"] (spD false K sp_law_stronger) :=
  fnD T.F_law_stronger sc_law_stronger sp_law_stronger_len hf_law_stronger fun cdv A outer s H E hr => by
    exact ⟨_, (dss_cons (ds_own 3 sc_law_stronger.nd (df_lst da_nil))
  (dss_cons (ds_for PassesOwn.never rfl (di_range1 T.m_range (da_cons (de_blt c_len d_len T.m_len (dab_cons ((de_var 0)).toB dab_nil)) da_nil)) (dg_name 4 sc_law_stronger.nd)
  (dss_cons (ds_set 5 sc_law_stronger.nd (de_cmp (o_eq hr) d_eq ((de_op o_mod d_mod ((de_ty c_int d_int T.m_int (dab_cons ((de_op o_div d_div ((de_var 2)).toB ((de_ix x_seq d_ix ((df_lst (da_cons de_int (da_cons de_int (da_cons de_int (da_cons de_int (da_cons de_int (da_cons de_int (da_cons de_int (da_cons de_int (da_cons de_int (da_cons de_int (da_cons de_int (da_cons de_int da_nil)))))))))))))).toB ((de_var 4)).toB)).toB)).toB dab_nil))).toB (de_int).toB)).toB (de_int).toB (nomark _)))
  (dss_one (ds_if ((dw_or ((dw_and (dt_cmp (o_in hr) d_in ((de_var 4)).toB ((de_ix x_seq d_ix ((de_var 1)).toB (de_int).toB)).toB (by with_unfolding_all rfl)) (dw_and1 ((dw_or (dt_cmp (o_eq hr) d_eq ((de_ix x_seq d_ix ((de_var 0)).toB ((de_var 4)).toB)).toB ((de_ix x_seq d_ix ((de_var 1)).toB (de_int).toB)).toB (nomark _)) (dw_or1 (dt_tru ((de_var 5)).toB)))).toT))).toT (dw_or1 ((dw_and (dt_cmp (o_notIn hr) d_notIn ((de_var 4)).toB ((de_ix x_seq d_ix ((de_var 1)).toB (de_int).toB)).toB (by with_unfolding_all rfl)) (dw_and (dt_cmp (o_eq hr) d_eq ((de_ix x_seq d_ix ((de_var 0)).toB ((de_var 4)).toB)).toB ((de_ix x_seq d_ix ((de_var 1)).toB (de_int).toB)).toB (nomark _)) (dw_and1 (dt_tru ((de_var 5)).toB))))).toT))).toT
  (dss_one (ds_app 3 (de_var 4)))
  dss_nil))))
  (ds_frz 3 (dss_one (ds_ret (de_ty c_tuple d_tuple T.m_tuple (dab_cons ((de_var 3)).toB dab_nil)))))))⟩
theorem ok_law_marks_hold (T : Tx K mg a_is_whole a_is_within a_speaking a_binds a_clash a_clashes a_binding a_find_bound a_is_binding a_judge_bound a_law_cell a_law_numbers a_law_same a_law_draws a_law_says a_law_tuple a_law_earlier a_law_binds a_law_binding a_law_due a_law_accepts a_law_stronger a_law_marks_hold a_law d_is_whole d_is_within d_speaking d_binds d_clash d_clashes d_binding d_find_bound d_is_binding d_judge_bound d_law_cell d_law_numbers d_law_same d_law_draws d_law_says d_law_tuple d_law_earlier d_law_binds d_law_binding d_law_due d_law_accepts d_law_stronger d_law_marks_hold d_law) : FnOk P w K mg base CX0 10 a_law_marks_hold d_law_marks_hold ["sides", "earlier", "marks", "quiet"] (spD false K sp_law_marks_hold) :=
  fnD T.F_law_marks_hold sc_law_marks_hold sp_law_marks_hold_len hf_law_marks_hold fun cdv A outer s H E hr => by
    have G_law_accepts := (ok_law_accepts (P := P) (w := w) (base := base) T).mono (show 3 ≤ 9 by decide)
    have G_law_binding := (ok_law_binding (P := P) (w := w) (base := base) T).mono (show 2 ≤ 9 by decide)
    have G_law_due := (ok_law_due (P := P) (w := w) (base := base) T).mono (show 3 ≤ 9 by decide)
    have G_law_same := (ok_law_same (P := P) (w := w) (base := base) T).mono (show 9 ≤ 9 by decide)
    have G_law_says := (ok_law_says (P := P) (w := w) (base := base) T).mono (show 1 ≤ 9 by decide)
    have G_clashes := (ok_clashes (P := P) (w := w) (base := base) T).mono (show 4 ≤ 9 by decide)
    have G_find_bound := (ok_find_bound (P := P) (w := w) (base := base) T).mono (show 4 ≤ 9 by decide)
    have G_judge_bound := (ok_judge_bound (P := P) (w := w) (base := base) T).mono (show 4 ≤ 9 by decide)
    exact ⟨_, (dss_cons (ds_set 4 sc_law_marks_hold.nd (de_tup (da_cons ((df_ty c_list f_list T.m_list (dab_cons ((de_var 0)).toB dab_nil))).toE (da_cons ((df_ty c_list f_list T.m_list (dab_cons ((de_var 1)).toB dab_nil))).toE da_nil))))
  (dss_cons (ds_set 5 sc_law_marks_hold.nd (de_call G_law_due hr T.g_law_due T.F_law_due.kp T.b_law_due (da_cons (de_var 0) (da_cons (de_var 1) (da_cons (de_var 2) da_nil)))))
  (dss_cons (ds_if ((dw_or (dt_not (dt_tru ((de_call G_law_same hr T.g_law_same T.F_law_same.kp T.b_law_same (da_cons (de_call G_find_bound hr T.g_find_bound T.F_find_bound.kp T.b_find_bound (da_cons (de_ix x_seq d_ix ((de_var 4)).toB (de_int).toB) (da_cons (de_ix x_seq d_ix ((de_var 4)).toB (de_int).toB) (da_cons (de_var 2) da_nil)))) (da_cons (de_var 5) da_nil)))).toB)) (dw_or1 ((dw_and (dt_tru ((de_var 3)).toB) (dw_and1 (dt_cmp (o_eq hr) d_eq ((de_ix x_seq d_ix ((de_var 5)).toB (de_int).toB)).toB (de_str).toB (nomark _))))).toT))).toT
  (dss_one (ds_ret de_bl))
  dss_nil)
  (dss_cons (ds_set 6 sc_law_marks_hold.nd (de_blt c_len d_len T.m_len (dab_cons ((de_var 1)).toB dab_nil)))
  (dss_cons (ds_set 7 sc_law_marks_hold.nd ((df_lst (da_cons (de_var 5) (da_cons (de_op o_add d_add ((de_var 5)).toB ((de_tup (da_cons de_int da_nil))).toB) (da_cons (de_sliceT ((de_var 5)).toB (do_some de_int) (do_some de_int)) (da_cons (de_tup (da_cons de_str (da_cons de_int da_nil))) (da_cons (de_tup (da_cons de_str (da_cons de_int da_nil))) (da_cons (de_tup (da_cons de_str (da_cons de_int da_nil))) (da_cons (de_tup (da_cons de_str (da_cons de_int (da_cons de_int da_nil)))) (da_cons (de_tup (da_cons de_str (da_cons de_int (da_cons de_int da_nil)))) (da_cons (de_tup (da_cons de_str (da_cons de_int (da_cons (de_op o_pow d_pow (de_int).toB (de_int).toB) da_nil)))) (da_cons (de_tup (da_cons de_str (da_cons (de_neg de_int) (da_cons (de_neg de_int) da_nil)))) da_nil)))))))))))).toE)
  (dss_cons (ds_set 8 sc_law_marks_hold.nd (de_call G_law_binding hr T.g_law_binding T.F_law_binding.kp T.b_law_binding (da_cons (de_var 0) (da_cons (de_var 1) (da_cons (de_var 2) (da_cons de_int da_nil))))))
  (dss_cons (ds_set 9 sc_law_marks_hold.nd (de_call G_law_binding hr T.g_law_binding T.F_law_binding.kp T.b_law_binding (da_cons (de_var 0) (da_cons (de_var 1) (da_cons (de_var 2) (da_cons de_int da_nil))))))
  (dss_cons (ds_for PassesOwn.never rfl (di_seq (de_op o_add d_add ((de_op o_add d_add ((de_op o_add d_add ((de_op o_add d_add ((df_lst (da_cons de_int (da_cons de_int (da_cons (de_op o_sub d_sub ((de_var 6)).toB (de_int).toB) da_nil))))).toB ((df_slice ((de_var 8)).toB (do_some de_int) (do_some de_int))).toB)).toB ((df_slice ((de_var 9)).toB (do_some de_int) (do_some de_int))).toB)).toB ((df_slice ((df_rev ((de_var 8)).toB)).toB (do_some de_int) (do_some de_int))).toB)).toB ((df_slice ((df_rev ((de_var 9)).toB)).toB (do_some de_int) (do_some de_int))).toB)) (dg_name 10 sc_law_marks_hold.nd)
  (dss_one (ds_set 7 sc_law_marks_hold.nd (de_op o_add d_add ((de_var 7)).toB ((df_lst (da_cons (de_tup (da_cons de_str (da_cons de_int (da_cons (de_var 10) da_nil)))) (da_cons (de_tup (da_cons de_str (da_cons de_int (da_cons (de_var 10) da_nil)))) (da_cons (de_tup (da_cons de_str (da_cons (de_var 10) (da_cons (de_ix x_seq d_ix ((de_op o_add d_add ((de_var 9)).toB ((df_lst (da_cons de_int da_nil))).toB)).toB (de_int).toB) da_nil)))) (da_cons (de_tup (da_cons de_str (da_cons (de_ix x_seq d_ix ((de_op o_add d_add ((de_var 8)).toB ((df_lst (da_cons de_int da_nil))).toB)).toB (de_int).toB) (da_cons (de_var 10) da_nil)))) da_nil)))))).toB))))
  (dss_cons (ds_for PassesOwn.never rfl (di_seq (de_var 7)) (dg_name 11 sc_law_marks_hold.nd)
  (dss_one (ds_if (dt_not (dt_tru ((de_call G_law_says hr T.g_law_says T.F_law_says.kp T.b_law_says (da_cons (de_call G_judge_bound hr T.g_judge_bound T.F_judge_bound.kp T.b_judge_bound (da_cons (de_ix x_seq d_ix ((de_var 4)).toB (de_int).toB) (da_cons (de_ix x_seq d_ix ((de_var 4)).toB (de_int).toB) (da_cons (de_var 2) (da_cons (de_var 11) da_nil))))) (da_cons (de_call G_law_accepts hr T.g_law_accepts T.F_law_accepts.kp T.b_law_accepts (da_cons (de_var 0) (da_cons (de_var 1) (da_cons (de_var 2) (da_cons (de_var 11) da_nil))))) da_nil)))).toB))
  (dss_one (ds_ret de_bl))
  dss_nil)))
  (dss_cons (ds_for PassesOwn.never rfl (di_range1 T.m_range (da_cons de_int da_nil)) (dg_name 12 sc_law_marks_hold.nd)
  (dss_one (ds_if (dt_cmp o_lt d_lt ((de_var 6)).toB (de_int).toB (nomark _))
  (dss_cons (ds_setLc 13 rfl sc_law_marks_hold.nd (di_seq (de_call G_clashes hr T.g_clashes T.F_clashes.kp T.b_clashes (da_cons (de_ix x_seq d_ix ((de_var 4)).toB (de_int).toB) (da_cons (de_op o_add d_add ((de_var 1)).toB ((df_lst (da_cons (de_tup (da_cons (de_var 2) (da_cons (de_var 12) da_nil))) da_nil))).toB) da_nil)))) (blk_ok ["sides", "earlier", "marks", "quiet", "handed", "due", "many", "papers", "yes", "no", "k", "paper", "answer", "later", "pair"] (defScope s_law_marks_hold) (by decide +kernel)) (fun _ _ _ _ _ => (dg_name 14 sc_law_marks_hold.nd)) (fun _ _ _ _ _ => (dts_one (dt_cmp (o_eq hr) d_eq ((de_ix x_seq d_ix ((de_var 14)).toB (de_int).toB)).toB ((de_var 6)).toB (nomark _)))) (fun _ _ _ _ _ => (de_var 14)) (own := [("pair", 14)]))
  (dss_one (ds_if (dt_not (dt_tru ((de_call G_law_same hr T.g_law_same T.F_law_same.kp T.b_law_same (da_cons (de_var 13) (da_cons ((df_lc rfl sc_law_marks_hold.nd (di_seq (de_ix x_seq d_ix ((df_lst (da_cons (de_var 8) (da_cons (de_var 9) da_nil)))).toB ((de_var 12)).toB)) (blk_ok ["sides", "earlier", "marks", "quiet", "handed", "due", "many", "papers", "yes", "no", "k", "paper", "answer", "later", "pair"] (defScope s_law_marks_hold) (by decide +kernel)) (fun _ _ _ _ _ => (dg_name 10 sc_law_marks_hold.nd)) (fun _ _ _ _ _ => dts_nil) (fun _ _ _ _ _ => (de_tup (da_cons (de_var 10) (da_cons (de_var 6) da_nil)))) (own := [("k", 10)]))).toE da_nil)))).toB))
  (dss_one (ds_ret de_bl))
  dss_nil)))
  dss_nil)))
  (dss_one (ds_ret (de_cmp (o_eq hr) d_eq ((de_var 4)).toB ((de_tup (da_cons (de_var 0) (da_cons (de_var 1) da_nil)))).toB (nomark _))))))))))))))⟩
theorem ok_law (T : Tx K mg a_is_whole a_is_within a_speaking a_binds a_clash a_clashes a_binding a_find_bound a_is_binding a_judge_bound a_law_cell a_law_numbers a_law_same a_law_draws a_law_says a_law_tuple a_law_earlier a_law_binds a_law_binding a_law_due a_law_accepts a_law_stronger a_law_marks_hold a_law d_is_whole d_is_within d_speaking d_binds d_clash d_clashes d_binding d_find_bound d_is_binding d_judge_bound d_law_cell d_law_numbers d_law_same d_law_draws d_law_says d_law_tuple d_law_earlier d_law_binds d_law_binding d_law_due d_law_accepts d_law_stronger d_law_marks_hold d_law) : FnOk P w K mg base CX0 11 a_law d_law ["script"] (spD false K sp_law) :=
  fnD T.F_law sc_law sp_law_len hf_law fun cdv A outer s H E hr => by
    have G_law_binds := (ok_law_binds (P := P) (w := w) (base := base) T).mono (show 1 ≤ 10 by decide)
    have G_law_draws := (ok_law_draws (P := P) (w := w) (base := base) T).mono (show 2 ≤ 10 by decide)
    have G_law_earlier := (ok_law_earlier (P := P) (w := w) (base := base) T).mono (show 3 ≤ 10 by decide)
    have G_law_marks_hold := (ok_law_marks_hold (P := P) (w := w) (base := base) T).mono (show 10 ≤ 10 by decide)
    have G_law_same := (ok_law_same (P := P) (w := w) (base := base) T).mono (show 9 ≤ 10 by decide)
    have G_law_says := (ok_law_says (P := P) (w := w) (base := base) T).mono (show 1 ≤ 10 by decide)
    have G_law_stronger := (ok_law_stronger (P := P) (w := w) (base := base) T).mono (show 1 ≤ 10 by decide)
    have G_law_tuple := (ok_law_tuple (P := P) (w := w) (base := base) T).mono (show 1 ≤ 10 by decide)
    have G_binds := (ok_binds (P := P) (w := w) (base := base) T).mono (show 2 ≤ 10 by decide)
    have G_clashes := (ok_clashes (P := P) (w := w) (base := base) T).mono (show 4 ≤ 10 by decide)
    exact ⟨_, (dss_cons (ds_set 1 sc_law.nd (de_call G_law_draws hr T.g_law_draws T.F_law_draws.kp T.b_law_draws (da_cons (de_var 0) (da_cons de_int (da_cons de_int da_nil)))))
  (dss_cons (ds_set 2 sc_law.nd (de_op o_add d_add (de_int).toB ((de_op o_mod d_mod ((de_ix x_seq d_ix ((de_var 1)).toB (de_int).toB)).toB (de_int).toB)).toB))
  (dss_cons (ds_set 3 sc_law.nd ((df_lc rfl sc_law.nd (di_seq (de_call G_law_draws hr T.g_law_draws T.F_law_draws.kp T.b_law_draws (da_cons (de_var 0) (da_cons de_int (da_cons (de_var 2) da_nil))))) (blk_ok ["script", "draws", "count", "sides", "earlier", "due", "k", "j", "tries", "one", "marks", "at", "cell", "mark"] (defScope s_law) (by decide +kernel)) (fun _ _ _ _ _ => (dg_name 12 sc_law.nd)) (fun _ _ _ _ _ => dts_nil) (fun _ _ _ _ _ => (de_op o_mod d_mod ((de_var 12)).toB (de_int).toB)) (own := [("cell", 12)]))).toE)
  (dss_cons (ds_set 4 sc_law.nd (de_call G_law_earlier hr T.g_law_earlier T.F_law_earlier.kp T.b_law_earlier (da_cons (de_var 0) (da_cons (de_var 3) (da_cons ((df_slice ((de_var 1)).toB (do_some de_int) (do_some de_int))).toE da_nil)))))
  (dss_cons (ds_own 5 sc_law.nd (df_lst da_nil))
  (dss_cons (ds_for PassesOwn.never rfl (di_range1 T.m_range (da_cons (de_blt c_len d_len T.m_len (dab_cons ((de_var 4)).toB dab_nil)) da_nil)) (dg_name 6 sc_law.nd)
  (dss_one (ds_for PassesOwn.never rfl (di_range2 T.m_range (da_cons (de_op o_add d_add ((de_var 6)).toB (de_int).toB) (da_cons (de_blt c_len d_len T.m_len (dab_cons ((de_var 4)).toB dab_nil)) da_nil))) (dg_name 7 sc_law.nd)
  (dss_one (ds_if ((dw_and (dt_cmp (o_ne hr) d_ne ((de_ix x_seq d_ix ((de_ix x_seq d_ix ((de_var 4)).toB ((de_var 6)).toB)).toB (de_int).toB)).toB ((de_ix x_seq d_ix ((de_ix x_seq d_ix ((de_var 4)).toB ((de_var 7)).toB)).toB (de_int).toB)).toB (nomark _)) (dw_and1 (dt_tru ((de_call G_law_binds hr T.g_law_binds T.F_law_binds.kp T.b_law_binds (da_cons (de_var 3) (da_cons (de_ix x_seq d_ix ((de_var 4)).toB ((de_var 6)).toB) (da_cons (de_ix x_seq d_ix ((de_ix x_seq d_ix ((de_var 4)).toB ((de_var 7)).toB)).toB (de_int).toB) da_nil))))).toB)))).toT
  (dss_one (ds_app 5 (de_tup (da_cons (de_var 6) (da_cons (de_var 7) da_nil)))))
  dss_nil)))))
  (ds_frz 5 (dss_cons (ds_if ((dw_or (dt_not (dt_tru ((de_call G_law_same hr T.g_law_same T.F_law_same.kp T.b_law_same (da_cons (de_call G_clashes hr T.g_clashes T.F_clashes.kp T.b_clashes (da_cons ((df_ty c_list f_list T.m_list (dab_cons ((de_var 3)).toB dab_nil))).toE (da_cons ((df_ty c_list f_list T.m_list (dab_cons ((de_var 4)).toB dab_nil))).toE da_nil))) (da_cons (de_var 5) da_nil)))).toB)) (dw_or1 ((dw_and (dt_cmp (o_eq hr) d_eq ((de_op o_mod d_mod ((de_ix x_seq d_ix ((de_var 1)).toB (de_int).toB)).toB (de_int).toB)).toB (de_int).toB (nomark _)) (dw_and1 (dt_cmp o_gt d_gt ((de_blt c_len d_len T.m_len (dab_cons ((de_var 5)).toB dab_nil))).toB (de_int).toB (nomark _))))).toT))).toT
  (dss_one (ds_ret de_bl))
  dss_nil)
  (dss_cons (ds_own 8 sc_law.nd (df_lst (da_cons (de_tup da_nil) (da_cons (de_tupRg1 rfl T.m_tuple T.m_range (de_var 2)) (da_cons (de_call G_law_tuple hr T.g_law_tuple T.F_law_tuple.kp T.b_law_tuple (da_cons (de_ix x_seq d_ix ((de_var 1)).toB (de_int).toB) (da_cons (de_var 2) da_nil))) (da_cons (de_ty c_tuple d_tuple T.m_tuple (dab_cons ((df_lc rfl sc_law.nd (di_range1 T.m_range (da_cons (de_var 2) da_nil)) (blk_ok ["script", "draws", "count", "sides", "earlier", "due", "k", "j", "tries", "one", "marks", "at", "cell", "mark"] (defScope s_law) (by decide +kernel)) (fun _ _ _ _ _ => (dg_name 13 sc_law.nd)) (fun _ _ _ _ _ => (dts_one (dt_cmp (o_eq hr) d_eq ((de_ix x_seq d_ix ((de_var 3)).toB ((de_var 13)).toB)).toB ((de_op o_mod d_mod ((de_ix x_seq d_ix ((de_var 1)).toB (de_int).toB)).toB (de_int).toB)).toB (nomark _)))) (fun _ _ _ _ _ => (de_var 13)) (own := [("mark", 13)]))).toB dab_nil)) da_nil))))))
  (dss_cons (ds_for PassesOwn.never rfl (di_range1 T.m_range (da_cons de_int da_nil)) (dg_name 6 sc_law.nd)
  (dss_cons (ds_set 9 sc_law.nd (de_ix x_seq d_ix ((de_var 4)).toB ((de_ix x_seq d_ix ((df_lst (da_cons (de_op o_sub d_sub ((de_blt c_len d_len T.m_len (dab_cons ((de_var 4)).toB dab_nil))).toB (de_int).toB) (da_cons de_int (da_cons (de_op o_mod d_mod ((de_ix x_seq d_ix ((de_var 1)).toB (de_int).toB)).toB ((de_blt c_len d_len T.m_len (dab_cons ((de_var 4)).toB dab_nil))).toB) (da_cons (de_op o_mod d_mod ((de_ix x_seq d_ix ((de_var 1)).toB (de_int).toB)).toB ((de_blt c_len d_len T.m_len (dab_cons ((de_var 4)).toB dab_nil))).toB) (da_cons de_int da_nil))))))).toB ((de_var 6)).toB)).toB))
  (dss_cons (ds_set 10 sc_law.nd (de_call G_law_stronger hr T.g_law_stronger T.F_law_stronger.kp T.b_law_stronger (da_cons (de_var 3) (da_cons (de_var 9) (da_cons (de_ix x_seq d_ix ((de_var 1)).toB ((de_op o_add d_add (de_int).toB ((de_var 6)).toB)).toB) da_nil)))))
  (dss_cons (ds_for PassesOwn.never rfl (di_range1 T.m_range (da_cons (de_blt c_len d_len T.m_len (dab_cons ((de_var 4)).toB dab_nil)) da_nil)) (dg_name 11 sc_law.nd)
  (dss_one (ds_if (dt_not (dt_tru ((de_call G_law_says hr T.g_law_says T.F_law_says.kp T.b_law_says (da_cons (de_call G_binds hr T.g_binds T.F_binds.kp T.b_binds (da_cons ((df_ty c_list f_list T.m_list (dab_cons ((de_var 3)).toB dab_nil))).toE (da_cons (de_ix x_seq d_ix ((de_var 4)).toB ((de_var 11)).toB) (da_cons (de_var 10) da_nil)))) (da_cons (de_call G_law_binds hr T.g_law_binds T.F_law_binds.kp T.b_law_binds (da_cons (de_var 3) (da_cons (de_ix x_seq d_ix ((de_var 4)).toB ((de_var 11)).toB) (da_cons (de_var 10) da_nil)))) da_nil)))).toB))
  (dss_one (ds_ret de_bl))
  dss_nil)))
  (dss_cons (ds_if (dt_cmp o_notBl d_notBl ((de_call G_binds hr T.g_binds T.F_binds.kp T.b_binds (da_cons ((df_ty c_list f_list T.m_list (dab_cons ((de_var 3)).toB dab_nil))).toE (da_cons (de_var 9) (da_cons (de_var 10) da_nil))))).toB (de_bl).toB (nomark _))
  (dss_one (ds_ret de_bl))
  dss_nil)
  (dss_one (ds_app 8 (de_var 10))))))))
  (ds_frz 8 (dss_cons (ds_for PassesOwn.never rfl (di_seq (de_var 8)) (dg_name 10 sc_law.nd)
  (dss_one (ds_if (dt_not (dt_tru ((de_call G_law_marks_hold hr T.g_law_marks_hold T.F_law_marks_hold.kp T.b_law_marks_hold (da_cons (de_var 3) (da_cons (de_var 4) (da_cons (de_var 10) (da_cons (de_cmp (o_eq hr) d_eq ((de_blt c_len d_len T.m_len (dab_cons ((de_var 5)).toB dab_nil))).toB (de_int).toB (nomark _)) da_nil)))))).toB))
  (dss_one (ds_ret de_bl))
  dss_nil)))
  (dss_one (ds_ret de_bl))))))))))))))⟩
end
theorem all_mk {l : PySem.W.OpenLaw} {w : World} {K : PySem.W.Frag} {h : Heap} {mg : Str → Option Value} {fa f0 f1 f2 f3 f4 f5 f6 f7 f8 f9 f10 f11 f12 f13 f14 f15 f16 f17 f18 f19 f20 f21 f22 f23 : Addr} (X : K.In h) (G : h.Ns mainGlobals mg) (hfa : mg "law" = some (.ref fa))
    {od0 an0 : Option Addr} {sl0 : Array (Option Value)} {oc0 kV0 dc0 pm0 cd0 ct0 : Value} {od1 an1 : Option Addr} {sl1 : Array (Option Value)} {oc1 kV1 dc1 pm1 cd1 ct1 : Value} {od2 an2 : Option Addr} {sl2 : Array (Option Value)} {oc2 kV2 dc2 pm2 cd2 ct2 : Value} {od3 an3 : Option Addr} {sl3 : Array (Option Value)} {oc3 kV3 dc3 pm3 cd3 ct3 : Value} {od4 an4 : Option Addr} {sl4 : Array (Option Value)} {oc4 kV4 dc4 pm4 cd4 ct4 : Value} {od5 an5 : Option Addr} {sl5 : Array (Option Value)} {oc5 kV5 dc5 pm5 cd5 ct5 : Value} {od6 an6 : Option Addr} {sl6 : Array (Option Value)} {oc6 kV6 dc6 pm6 cd6 ct6 : Value} {od7 an7 : Option Addr} {sl7 : Array (Option Value)} {oc7 kV7 dc7 pm7 cd7 ct7 : Value} {od8 an8 : Option Addr} {sl8 : Array (Option Value)} {oc8 kV8 dc8 pm8 cd8 ct8 : Value} {od9 an9 : Option Addr} {sl9 : Array (Option Value)} {oc9 kV9 dc9 pm9 cd9 ct9 : Value} {od10 an10 : Option Addr} {sl10 : Array (Option Value)} {oc10 kV10 dc10 pm10 cd10 ct10 : Value} {od11 an11 : Option Addr} {sl11 : Array (Option Value)} {oc11 kV11 dc11 pm11 cd11 ct11 : Value} {od12 an12 : Option Addr} {sl12 : Array (Option Value)} {oc12 kV12 dc12 pm12 cd12 ct12 : Value} {od13 an13 : Option Addr} {sl13 : Array (Option Value)} {oc13 kV13 dc13 pm13 cd13 ct13 : Value} {od14 an14 : Option Addr} {sl14 : Array (Option Value)} {oc14 kV14 dc14 pm14 cd14 ct14 : Value} {od15 an15 : Option Addr} {sl15 : Array (Option Value)} {oc15 kV15 dc15 pm15 cd15 ct15 : Value} {od16 an16 : Option Addr} {sl16 : Array (Option Value)} {oc16 kV16 dc16 pm16 cd16 ct16 : Value} {od17 an17 : Option Addr} {sl17 : Array (Option Value)} {oc17 kV17 dc17 pm17 cd17 ct17 : Value} {od18 an18 : Option Addr} {sl18 : Array (Option Value)} {oc18 kV18 dc18 pm18 cd18 ct18 : Value} {od19 an19 : Option Addr} {sl19 : Array (Option Value)} {oc19 kV19 dc19 pm19 cd19 ct19 : Value} {od20 an20 : Option Addr} {sl20 : Array (Option Value)} {oc20 kV20 dc20 pm20 cd20 ct20 : Value} {od21 an21 : Option Addr} {sl21 : Array (Option Value)} {oc21 kV21 dc21 pm21 cd21 ct21 : Value} {od22 an22 : Option Addr} {sl22 : Array (Option Value)} {oc22 kV22 dc22 pm22 cd22 ct22 : Value} {od23 an23 : Option Addr} {sl23 : Array (Option Value)} {oc23 kV23 dc23 pm23 cd23 ct23 : Value}
    (a0 : PySem.W.nsIn K mainGlobals "is_whole" = some (some (.ref f0))) (l0 : K.lookup f0 = some ⟨oc0, od0, .func (PySem.W.fnOf "is_whole" "is_whole" (defArgs s_is_whole) (defBody s_is_whole) (defScope s_is_whole) .none kV0 dc0 pm0 an0 cd0 ct0), sl0⟩) (c0 : PySem.W.codeIn K cd0 "is_whole" = true) (k0 : PySem.W.keepIn K (.ref f0) = true)
    (a1 : PySem.W.nsIn K mainGlobals "is_within" = some (some (.ref f1))) (l1 : K.lookup f1 = some ⟨oc1, od1, .func (PySem.W.fnOf "is_within" "is_within" (defArgs s_is_within) (defBody s_is_within) (defScope s_is_within) .none kV1 dc1 pm1 an1 cd1 ct1), sl1⟩) (c1 : PySem.W.codeIn K cd1 "is_within" = true) (k1 : PySem.W.keepIn K (.ref f1) = true)
    (a2 : PySem.W.nsIn K mainGlobals "speaking" = some (some (.ref f2))) (l2 : K.lookup f2 = some ⟨oc2, od2, .func (PySem.W.fnOf "speaking" "speaking" (defArgs s_speaking) (defBody s_speaking) (defScope s_speaking) .none kV2 dc2 pm2 an2 cd2 ct2), sl2⟩) (c2 : PySem.W.codeIn K cd2 "speaking" = true) (k2 : PySem.W.keepIn K (.ref f2) = true)
    (a3 : PySem.W.nsIn K mainGlobals "binds" = some (some (.ref f3))) (l3 : K.lookup f3 = some ⟨oc3, od3, .func (PySem.W.fnOf "binds" "binds" (defArgs s_binds) (defBody s_binds) (defScope s_binds) .none kV3 dc3 pm3 an3 cd3 ct3), sl3⟩) (c3 : PySem.W.codeIn K cd3 "binds" = true) (k3 : PySem.W.keepIn K (.ref f3) = true)
    (a4 : PySem.W.nsIn K mainGlobals "clash" = some (some (.ref f4))) (l4 : K.lookup f4 = some ⟨oc4, od4, .func (PySem.W.fnOf "clash" "clash" (defArgs s_clash) (defBody s_clash) (defScope s_clash) .none kV4 dc4 pm4 an4 cd4 ct4), sl4⟩) (c4 : PySem.W.codeIn K cd4 "clash" = true) (k4 : PySem.W.keepIn K (.ref f4) = true)
    (a5 : PySem.W.nsIn K mainGlobals "clashes" = some (some (.ref f5))) (l5 : K.lookup f5 = some ⟨oc5, od5, .func (PySem.W.fnOf "clashes" "clashes" (defArgs s_clashes) (defBody s_clashes) (defScope s_clashes) .none kV5 dc5 pm5 an5 cd5 ct5), sl5⟩) (c5 : PySem.W.codeIn K cd5 "clashes" = true) (k5 : PySem.W.keepIn K (.ref f5) = true)
    (a6 : PySem.W.nsIn K mainGlobals "binding" = some (some (.ref f6))) (l6 : K.lookup f6 = some ⟨oc6, od6, .func (PySem.W.fnOf "binding" "binding" (defArgs s_binding) (defBody s_binding) (defScope s_binding) .none kV6 dc6 pm6 an6 cd6 ct6), sl6⟩) (c6 : PySem.W.codeIn K cd6 "binding" = true) (k6 : PySem.W.keepIn K (.ref f6) = true)
    (a7 : PySem.W.nsIn K mainGlobals "find_bound" = some (some (.ref f7))) (l7 : K.lookup f7 = some ⟨oc7, od7, .func (PySem.W.fnOf "find_bound" "find_bound" (defArgs s_find_bound) (defBody s_find_bound) (defScope s_find_bound) .none kV7 dc7 pm7 an7 cd7 ct7), sl7⟩) (c7 : PySem.W.codeIn K cd7 "find_bound" = true) (k7 : PySem.W.keepIn K (.ref f7) = true)
    (a8 : PySem.W.nsIn K mainGlobals "is_binding" = some (some (.ref f8))) (l8 : K.lookup f8 = some ⟨oc8, od8, .func (PySem.W.fnOf "is_binding" "is_binding" (defArgs s_is_binding) (defBody s_is_binding) (defScope s_is_binding) .none kV8 dc8 pm8 an8 cd8 ct8), sl8⟩) (c8 : PySem.W.codeIn K cd8 "is_binding" = true) (k8 : PySem.W.keepIn K (.ref f8) = true)
    (a9 : PySem.W.nsIn K mainGlobals "judge_bound" = some (some (.ref f9))) (l9 : K.lookup f9 = some ⟨oc9, od9, .func (PySem.W.fnOf "judge_bound" "judge_bound" (defArgs s_judge_bound) (defBody s_judge_bound) (defScope s_judge_bound) .none kV9 dc9 pm9 an9 cd9 ct9), sl9⟩) (c9 : PySem.W.codeIn K cd9 "judge_bound" = true) (k9 : PySem.W.keepIn K (.ref f9) = true)
    (a10 : PySem.W.nsIn K mainGlobals "_law_cell" = some (some (.ref f10))) (l10 : K.lookup f10 = some ⟨oc10, od10, .func (PySem.W.fnOf "_law_cell" "_law_cell" (defArgs s_law_cell) (defBody s_law_cell) (defScope s_law_cell) .none kV10 dc10 pm10 an10 cd10 ct10), sl10⟩) (c10 : PySem.W.codeIn K cd10 "_law_cell" = true) (k10 : PySem.W.keepIn K (.ref f10) = true)
    (a11 : PySem.W.nsIn K mainGlobals "_law_numbers" = some (some (.ref f11))) (l11 : K.lookup f11 = some ⟨oc11, od11, .func (PySem.W.fnOf "_law_numbers" "_law_numbers" (defArgs s_law_numbers) (defBody s_law_numbers) (defScope s_law_numbers) .none kV11 dc11 pm11 an11 cd11 ct11), sl11⟩) (c11 : PySem.W.codeIn K cd11 "_law_numbers" = true) (k11 : PySem.W.keepIn K (.ref f11) = true)
    (a12 : PySem.W.nsIn K mainGlobals "_law_same" = some (some (.ref f12))) (l12 : K.lookup f12 = some ⟨oc12, od12, .func (PySem.W.fnOf "_law_same" "_law_same" (defArgs s_law_same) (defBody s_law_same) (defScope s_law_same) .none kV12 dc12 pm12 an12 cd12 ct12), sl12⟩) (c12 : PySem.W.codeIn K cd12 "_law_same" = true) (k12 : PySem.W.keepIn K (.ref f12) = true)
    (a13 : PySem.W.nsIn K mainGlobals "_law_draws" = some (some (.ref f13))) (l13 : K.lookup f13 = some ⟨oc13, od13, .func (PySem.W.fnOf "_law_draws" "_law_draws" (defArgs s_law_draws) (defBody s_law_draws) (defScope s_law_draws) .none kV13 dc13 pm13 an13 cd13 ct13), sl13⟩) (c13 : PySem.W.codeIn K cd13 "_law_draws" = true) (k13 : PySem.W.keepIn K (.ref f13) = true)
    (a14 : PySem.W.nsIn K mainGlobals "_law_says" = some (some (.ref f14))) (l14 : K.lookup f14 = some ⟨oc14, od14, .func (PySem.W.fnOf "_law_says" "_law_says" (defArgs s_law_says) (defBody s_law_says) (defScope s_law_says) .none kV14 dc14 pm14 an14 cd14 ct14), sl14⟩) (c14 : PySem.W.codeIn K cd14 "_law_says" = true) (k14 : PySem.W.keepIn K (.ref f14) = true)
    (a15 : PySem.W.nsIn K mainGlobals "_law_tuple" = some (some (.ref f15))) (l15 : K.lookup f15 = some ⟨oc15, od15, .func (PySem.W.fnOf "_law_tuple" "_law_tuple" (defArgs s_law_tuple) (defBody s_law_tuple) (defScope s_law_tuple) .none kV15 dc15 pm15 an15 cd15 ct15), sl15⟩) (c15 : PySem.W.codeIn K cd15 "_law_tuple" = true) (k15 : PySem.W.keepIn K (.ref f15) = true)
    (a16 : PySem.W.nsIn K mainGlobals "_law_earlier" = some (some (.ref f16))) (l16 : K.lookup f16 = some ⟨oc16, od16, .func (PySem.W.fnOf "_law_earlier" "_law_earlier" (defArgs s_law_earlier) (defBody s_law_earlier) (defScope s_law_earlier) .none kV16 dc16 pm16 an16 cd16 ct16), sl16⟩) (c16 : PySem.W.codeIn K cd16 "_law_earlier" = true) (k16 : PySem.W.keepIn K (.ref f16) = true)
    (a17 : PySem.W.nsIn K mainGlobals "_law_binds" = some (some (.ref f17))) (l17 : K.lookup f17 = some ⟨oc17, od17, .func (PySem.W.fnOf "_law_binds" "_law_binds" (defArgs s_law_binds) (defBody s_law_binds) (defScope s_law_binds) .none kV17 dc17 pm17 an17 cd17 ct17), sl17⟩) (c17 : PySem.W.codeIn K cd17 "_law_binds" = true) (k17 : PySem.W.keepIn K (.ref f17) = true)
    (a18 : PySem.W.nsIn K mainGlobals "_law_binding" = some (some (.ref f18))) (l18 : K.lookup f18 = some ⟨oc18, od18, .func (PySem.W.fnOf "_law_binding" "_law_binding" (defArgs s_law_binding) (defBody s_law_binding) (defScope s_law_binding) .none kV18 dc18 pm18 an18 cd18 ct18), sl18⟩) (c18 : PySem.W.codeIn K cd18 "_law_binding" = true) (k18 : PySem.W.keepIn K (.ref f18) = true)
    (a19 : PySem.W.nsIn K mainGlobals "_law_due" = some (some (.ref f19))) (l19 : K.lookup f19 = some ⟨oc19, od19, .func (PySem.W.fnOf "_law_due" "_law_due" (defArgs s_law_due) (defBody s_law_due) (defScope s_law_due) .none kV19 dc19 pm19 an19 cd19 ct19), sl19⟩) (c19 : PySem.W.codeIn K cd19 "_law_due" = true) (k19 : PySem.W.keepIn K (.ref f19) = true)
    (a20 : PySem.W.nsIn K mainGlobals "_law_accepts" = some (some (.ref f20))) (l20 : K.lookup f20 = some ⟨oc20, od20, .func (PySem.W.fnOf "_law_accepts" "_law_accepts" (defArgs s_law_accepts) (defBody s_law_accepts) (defScope s_law_accepts) .none kV20 dc20 pm20 an20 cd20 ct20), sl20⟩) (c20 : PySem.W.codeIn K cd20 "_law_accepts" = true) (k20 : PySem.W.keepIn K (.ref f20) = true)
    (a21 : PySem.W.nsIn K mainGlobals "_law_stronger" = some (some (.ref f21))) (l21 : K.lookup f21 = some ⟨oc21, od21, .func (PySem.W.fnOf "_law_stronger" "_law_stronger" (defArgs s_law_stronger) (defBody s_law_stronger) (defScope s_law_stronger) .none kV21 dc21 pm21 an21 cd21 ct21), sl21⟩) (c21 : PySem.W.codeIn K cd21 "_law_stronger" = true) (k21 : PySem.W.keepIn K (.ref f21) = true)
    (a22 : PySem.W.nsIn K mainGlobals "_law_marks_hold" = some (some (.ref f22))) (l22 : K.lookup f22 = some ⟨oc22, od22, .func (PySem.W.fnOf "_law_marks_hold" "_law_marks_hold" (defArgs s_law_marks_hold) (defBody s_law_marks_hold) (defScope s_law_marks_hold) .none kV22 dc22 pm22 an22 cd22 ct22), sl22⟩) (c22 : PySem.W.codeIn K cd22 "_law_marks_hold" = true) (k22 : PySem.W.keepIn K (.ref f22) = true)
    (a23 : PySem.W.nsIn K mainGlobals "law" = some (some (.ref f23))) (l23 : K.lookup f23 = some ⟨oc23, od23, .func (PySem.W.fnOf "law" "law" (defArgs s_law) (defBody s_law) (defScope s_law) .none kV23 dc23 pm23 an23 cd23 ct23), sl23⟩) (c23 : PySem.W.codeIn K cd23 "law" = true) (k23 : PySem.W.keepIn K (.ref f23) = true)
    (z0 : PySem.W.nsIn K mainGlobals "all" = some none)
    (z1 : PySem.W.nsIn K mainGlobals "any" = some none)
    (z2 : PySem.W.nsIn K mainGlobals "bool" = some none)
    (z3 : PySem.W.nsIn K mainGlobals "enumerate" = some none)
    (z4 : PySem.W.nsIn K mainGlobals "int" = some none)
    (z5 : PySem.W.nsIn K mainGlobals "isinstance" = some none)
    (z6 : PySem.W.nsIn K mainGlobals "len" = some none)
    (z7 : PySem.W.nsIn K mainGlobals "list" = some none)
    (z8 : PySem.W.nsIn K mainGlobals "range" = some none)
    (z9 : PySem.W.nsIn K mainGlobals "str" = some none)
    (z10 : PySem.W.nsIn K mainGlobals "tuple" = some none)
    : ∃ fd : FuncData, (∀ (s : Shared) (v : Value), BindsTo s fd ⟨[v], []⟩ [("script", v)]) ∧ ∀ base : Heap, K.In base → base.Ns mainGlobals mg → FnOk l.prog w K mg base CX0 11 fa fd ["script"] (spD false K sp_law) := by
  have e := hfa.symm.trans (PySem.W.mg_of X G a23)
  cases e
  have F0 := fun_mk (st := s_is_whole) l0 c0 k0
  have B0 := F0.binds (ps := ["value"]) fun _ _ _ _ _ _ us hl => match us, hl with | [_], _ => rfl
  have F1 := fun_mk (st := s_is_within) l1 c1 k1
  have B1 := F1.binds (ps := ["value", "low", "high"]) fun _ _ _ _ _ _ us hl => match us, hl with | [_, _, _], _ => rfl
  have F2 := fun_mk (st := s_speaking) l2 c2 k2
  have B2 := F2.binds (ps := ["sides", "marks", "answer"]) fun _ _ _ _ _ _ us hl => match us, hl with | [_, _, _], _ => rfl
  have F3 := fun_mk (st := s_binds) l3 c3 k3
  have B3 := F3.binds (ps := ["sides", "earlier", "marks"]) fun _ _ _ _ _ _ us hl => match us, hl with | [_, _, _], _ => rfl
  have F4 := fun_mk (st := s_clash) l4 c4 k4
  have B4 := F4.binds (ps := ["sides", "one", "other"]) fun _ _ _ _ _ _ us hl => match us, hl with | [_, _, _], _ => rfl
  have F5 := fun_mk (st := s_clashes) l5 c5 k5
  have B5 := F5.binds (ps := ["sides", "earlier"]) fun _ _ _ _ _ _ us hl => match us, hl with | [_, _], _ => rfl
  have F6 := fun_mk (st := s_binding) l6 c6 k6
  have B6 := F6.binds (ps := ["sides", "earlier", "marks", "answer"]) fun _ _ _ _ _ _ us hl => match us, hl with | [_, _, _, _], _ => rfl
  have F7 := fun_mk (st := s_find_bound) l7 c7 k7
  have B7 := F7.binds (ps := ["sides", "earlier", "marks"]) fun _ _ _ _ _ _ us hl => match us, hl with | [_, _, _], _ => rfl
  have F8 := fun_mk (st := s_is_binding) l8 c8 k8
  have B8 := F8.binds (ps := ["sides", "earlier", "marks", "answer", "k"]) fun _ _ _ _ _ _ us hl => match us, hl with | [_, _, _, _, _], _ => rfl
  have F9 := fun_mk (st := s_judge_bound) l9 c9 k9
  have B9 := F9.binds (ps := ["sides", "earlier", "marks", "verdict"]) fun _ _ _ _ _ _ us hl => match us, hl with | [_, _, _, _], _ => rfl
  have F10 := fun_mk (st := s_law_cell) l10 c10 k10
  have B10 := F10.binds (ps := ["script", "k"]) fun _ _ _ _ _ _ us hl => match us, hl with | [_, _], _ => rfl
  have F11 := fun_mk (st := s_law_numbers) l11 c11 k11
  have B11 := F11.binds (ps := ["cell", "count", "limit"]) fun _ _ _ _ _ _ us hl => match us, hl with | [_, _, _], _ => rfl
  have F12 := fun_mk (st := s_law_same) l12 c12 k12
  have B12 := F12.binds (ps := ["told", "due"]) fun _ _ _ _ _ _ us hl => match us, hl with | [_, _], _ => rfl
  have F13 := fun_mk (st := s_law_draws) l13 c13 k13
  have B13 := F13.binds (ps := ["script", "k", "count"]) fun _ _ _ _ _ _ us hl => match us, hl with | [_, _, _], _ => rfl
  have F14 := fun_mk (st := s_law_says) l14 c14 k14
  have B14 := F14.binds (ps := ["told", "due"]) fun _ _ _ _ _ _ us hl => match us, hl with | [_, _], _ => rfl
  have F15 := fun_mk (st := s_law_tuple) l15 c15 k15
  have B15 := F15.binds (ps := ["draw", "count"]) fun _ _ _ _ _ _ us hl => match us, hl with | [_, _], _ => rfl
  have F16 := fun_mk (st := s_law_earlier) l16 c16 k16
  have B16 := F16.binds (ps := ["script", "sides", "draws"]) fun _ _ _ _ _ _ us hl => match us, hl with | [_, _, _], _ => rfl
  have F17 := fun_mk (st := s_law_binds) l17 c17 k17
  have B17 := F17.binds (ps := ["sides", "one", "marks"]) fun _ _ _ _ _ _ us hl => match us, hl with | [_, _, _], _ => rfl
  have F18 := fun_mk (st := s_law_binding) l18 c18 k18
  have B18 := F18.binds (ps := ["sides", "earlier", "marks", "answer"]) fun _ _ _ _ _ _ us hl => match us, hl with | [_, _, _, _], _ => rfl
  have F19 := fun_mk (st := s_law_due) l19 c19 k19
  have B19 := F19.binds (ps := ["sides", "earlier", "marks"]) fun _ _ _ _ _ _ us hl => match us, hl with | [_, _, _], _ => rfl
  have F20 := fun_mk (st := s_law_accepts) l20 c20 k20
  have B20 := F20.binds (ps := ["sides", "earlier", "marks", "paper"]) fun _ _ _ _ _ _ us hl => match us, hl with | [_, _, _, _], _ => rfl
  have F21 := fun_mk (st := s_law_stronger) l21 c21 k21
  have B21 := F21.binds (ps := ["sides", "one", "draw"]) fun _ _ _ _ _ _ us hl => match us, hl with | [_, _, _], _ => rfl
  have F22 := fun_mk (st := s_law_marks_hold) l22 c22 k22
  have B22 := F22.binds (ps := ["sides", "earlier", "marks", "quiet"]) fun _ _ _ _ _ _ us hl => match us, hl with | [_, _, _, _], _ => rfl
  have F23 := fun_mk (st := s_law) l23 c23 k23
  have B23 := F23.binds (ps := ["script"]) fun _ _ _ _ _ _ us hl => match us, hl with | [_], _ => rfl
  refine ⟨_, fun s v => ?_, fun base _ _ => ok_law (T := ⟨F0, PySem.W.mg_of X G a0, B0, F1, PySem.W.mg_of X G a1, B1, F2, PySem.W.mg_of X G a2, B2, F3, PySem.W.mg_of X G a3, B3, F4, PySem.W.mg_of X G a4, B4, F5, PySem.W.mg_of X G a5, B5, F6, PySem.W.mg_of X G a6, B6, F7, PySem.W.mg_of X G a7, B7, F8, PySem.W.mg_of X G a8, B8, F9, PySem.W.mg_of X G a9, B9, F10, PySem.W.mg_of X G a10, B10, F11, PySem.W.mg_of X G a11, B11, F12, PySem.W.mg_of X G a12, B12, F13, PySem.W.mg_of X G a13, B13, F14, PySem.W.mg_of X G a14, B14, F15, PySem.W.mg_of X G a15, B15, F16, PySem.W.mg_of X G a16, B16, F17, PySem.W.mg_of X G a17, B17, F18, PySem.W.mg_of X G a18, B18, F19, PySem.W.mg_of X G a19, B19, F20, PySem.W.mg_of X G a20, B20, F21, PySem.W.mg_of X G a21, B21, F22, PySem.W.mg_of X G a22, B22, F23, PySem.W.mg_of X G a23, B23, PySem.W.mg_none_of X G z0, PySem.W.mg_none_of X G z1, PySem.W.mg_none_of X G z2, PySem.W.mg_none_of X G z3, PySem.W.mg_none_of X G z4, PySem.W.mg_none_of X G z5, PySem.W.mg_none_of X G z6, PySem.W.mg_none_of X G z7, PySem.W.mg_none_of X G z8, PySem.W.mg_none_of X G z9, PySem.W.mg_none_of X G z10⟩)⟩
  exact .of_eq rfl

end DL
open PySem PySem.W PyProof.Rows
set_option maxHeartbeats 0 in
theorem PySem.Challenge.cw_juriesagree_k71_whole_many_marks_and_ear_holds : PySem.Challenge.rw_juriesagree_k71_whole_many_marks_and_ear.Holds := by
  w_on; o_law; k_head; (case hw => w_witness2)
  k_fill
  refine L2.walk_of (l := PySem.Challenge.rw_juriesagree_k71_whole_many_marks_and_ear) (n := 63) (k := 11) (x := "script") (CX := fun _ => L2.CX0) (sp := fun w => DL.spD false _ DL.sp_law) rfl (by decide) rfl ⟨rfl, by decide, by decide⟩ (fun w h Y => PySem.W.kIn_of Y) ?F (fun w H a ns hl _ hS => DL.law_start ns hl hS) (fun _ _ _ _ _ h => h)
  case F =>
    intro w mg fa h KX G hmg
    refine' DL.all_mk KX G hmg ?a0 ?l0 ?c0 ?k0 ?a1 ?l1 ?c1 ?k1 ?a2 ?l2 ?c2 ?k2 ?a3 ?l3 ?c3 ?k3 ?a4 ?l4 ?c4 ?k4 ?a5 ?l5 ?c5 ?k5 ?a6 ?l6 ?c6 ?k6 ?a7 ?l7 ?c7 ?k7 ?a8 ?l8 ?c8 ?k8 ?a9 ?l9 ?c9 ?k9 ?a10 ?l10 ?c10 ?k10 ?a11 ?l11 ?c11 ?k11 ?a12 ?l12 ?c12 ?k12 ?a13 ?l13 ?c13 ?k13 ?a14 ?l14 ?c14 ?k14 ?a15 ?l15 ?c15 ?k15 ?a16 ?l16 ?c16 ?k16 ?a17 ?l17 ?c17 ?k17 ?a18 ?l18 ?c18 ?k18 ?a19 ?l19 ?c19 ?k19 ?a20 ?l20 ?c20 ?k20 ?a21 ?l21 ?c21 ?k21 ?a22 ?l22 ?c22 ?k22 ?a23 ?l23 ?c23 ?k23 ?z0 ?z1 ?z2 ?z3 ?z4 ?z5 ?z6 ?z7 ?z8 ?z9 ?z10
    (case a0 => k_is); (case l0 => k_is); (case c0 => k_is); (case k0 => k_is); (case a1 => k_is); (case l1 => k_is); (case c1 => k_is); (case k1 => k_is)
    (case a2 => k_is); (case l2 => k_is); (case c2 => k_is); (case k2 => k_is); (case a3 => k_is); (case l3 => k_is); (case c3 => k_is); (case k3 => k_is)
    (case a4 => k_is); (case l4 => k_is); (case c4 => k_is); (case k4 => k_is); (case a5 => k_is); (case l5 => k_is); (case c5 => k_is); (case k5 => k_is)
    (case a6 => k_is); (case l6 => k_is); (case c6 => k_is); (case k6 => k_is); (case a7 => k_is); (case l7 => k_is); (case c7 => k_is); (case k7 => k_is)
    (case a8 => k_is); (case l8 => k_is); (case c8 => k_is); (case k8 => k_is); (case a9 => k_is); (case l9 => k_is); (case c9 => k_is); (case k9 => k_is)
    (case a10 => k_is); (case l10 => k_is); (case c10 => k_is); (case k10 => k_is); (case a11 => k_is); (case l11 => k_is); (case c11 => k_is); (case k11 => k_is)
    (case a12 => k_is); (case l12 => k_is); (case c12 => k_is); (case k12 => k_is); (case a13 => k_is); (case l13 => k_is); (case c13 => k_is); (case k13 => k_is)
    (case a14 => k_is); (case l14 => k_is); (case c14 => k_is); (case k14 => k_is); (case a15 => k_is); (case l15 => k_is); (case c15 => k_is); (case k15 => k_is)
    (case a16 => k_is); (case l16 => k_is); (case c16 => k_is); (case k16 => k_is); (case a17 => k_is); (case l17 => k_is); (case c17 => k_is); (case k17 => k_is)
    (case a18 => k_is); (case l18 => k_is); (case c18 => k_is); (case k18 => k_is); (case a19 => k_is); (case l19 => k_is); (case c19 => k_is); (case k19 => k_is)
    (case a20 => k_is); (case l20 => k_is); (case c20 => k_is); (case k20 => k_is); (case a21 => k_is); (case l21 => k_is); (case c21 => k_is); (case k21 => k_is)
    (case a22 => k_is); (case l22 => k_is); (case c22 => k_is); (case k22 => k_is); (case a23 => k_is); (case l23 => k_is); (case c23 => k_is); (case k23 => k_is)
    (case z0 => k_is); (case z1 => k_is); (case z2 => k_is); (case z3 => k_is); (case z4 => k_is); (case z5 => k_is); (case z6 => k_is); (case z7 => k_is)
    (case z8 => k_is); (case z9 => k_is); (case z10 => k_is)

