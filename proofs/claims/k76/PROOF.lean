import PyProof.Rows.All
import Wide.All
import OpenK.AllK
import Wide.FinOn
import HandS.ForMost
import HandS.IsInst
import HandS.SortInts
import HandS.SortRule
import HandS.Style
import HandS.SortKw
import HandS.Wide
import HandS.TupAny
import HandS.Deep
import HandS.Flow
import PySem.Challenge.RW_juriesagree_k76_whole_costs_of_many_side
set_option Elab.async false
set_option linter.all false
set_option maxRecDepth 100000
set_option maxHeartbeats 4000000
/-! The data layer: values as trees. -/
namespace DL
open PySem PySem.Spec PyProof.Rows L2

/-- plain data -/
inductive D where
  | non | bl (b : Bool) | int (i : Int) | str (x : Str) | lst (xs : List D) | tup (xs : List D) | scr (ns : List Int)
  | dK (kvs : List (Key × D)) | dT (kvs : List (List Key × D))

abbrev Fr := PySem.W.Frag

mutual
inductive Rep (K : Fr) (F : Hp) : V → D → Prop
  | non : Rep K F .non .non
  | bl (b : Bool) : Rep K F (.bl b) (.bl b)
  | int (i : Int) : Rep K F (.int i) (.int i)
  | str (x : Str) : Rep K F (.str x) (.str x)
  | ob {a : Addr} {o : HO} {d : D} : F a = some o → RepO K F o d → Rep K F (.ref a) d
  | scr {a : Addr} {ns : List Int} : SqL K F a (ns.map V.int) → Rep K F (.ref a) (.scr ns)
inductive RepO (K : Fr) (F : Hp) : HO → D → Prop
  | lst {vs : List V} {ds : List D} : RepL K F vs ds → RepO K F (.lst vs) (.lst ds)
  | tup {vs : List V} {ds : List D} : RepL K F vs ds → RepO K F (.tup vs) (.tup ds)
  | dK {kvs : List (Key × V)} {kds : List (Key × D)} : RepK K F kvs kds → RepO K F (.dK kvs) (.dK kds)
  | dT {kvs : List (List Key × V)} {kds : List (List Key × D)} : RepT K F kvs kds → RepO K F (.dT kvs) (.dT kds)
inductive RepL (K : Fr) (F : Hp) : List V → List D → Prop
  | nil : RepL K F [] []
  | cons {v : V} {vs : List V} {d : D} {ds : List D} : Rep K F v d → RepL K F vs ds → RepL K F (v :: vs) (d :: ds)
inductive RepK (K : Fr) (F : Hp) : List (Key × V) → List (Key × D) → Prop
  | nil : RepK K F [] []
  | cons {k : Key} {v : V} {vs : List (Key × V)} {d : D} {ds : List (Key × D)} : Rep K F v d → RepK K F vs ds → RepK K F ((k, v) :: vs) ((k, d) :: ds)
inductive RepT (K : Fr) (F : Hp) : List (List Key × V) → List (List Key × D) → Prop
  | nil : RepT K F [] []
  | cons {k : List Key} {v : V} {vs : List (List Key × V)} {d : D} {ds : List (List Key × D)} : Rep K F v d → RepT K F vs ds → RepT K F ((k, v) :: vs) ((k, d) :: ds)
end

section
variable {K : Fr} {F F' : Hp}
mutual
theorem Rep.mono (s : Same F F') : ∀ {v : V} {d : D}, Rep K F v d → Rep K F' v d
  | _, _, .non => .non
  | _, _, .bl b => .bl b
  | _, _, .int i => .int i
  | _, _, .str x => .str x
  | _, _, .ob h r => .ob (s _ _ h) (RepO.mono s r)
  | _, _, .scr h => .scr (s.seq h)
theorem RepO.mono (s : Same F F') : ∀ {o : HO} {d : D}, RepO K F o d → RepO K F' o d
  | _, _, .lst r => .lst (RepL.mono s r)
  | _, _, .tup r => .tup (RepL.mono s r)
  | _, _, .dK r => .dK (RepK.mono s r)
  | _, _, .dT r => .dT (RepT.mono s r)
theorem RepL.mono (s : Same F F') : ∀ {vs : List V} {ds : List D}, RepL K F vs ds → RepL K F' vs ds
  | _, _, .nil => .nil
  | _, _, .cons a b => .cons (Rep.mono s a) (RepL.mono s b)
theorem RepK.mono (s : Same F F') : ∀ {vs : List (Key × V)} {ds : List (Key × D)}, RepK K F vs ds → RepK K F' vs ds
  | _, _, .nil => .nil
  | _, _, .cons a b => .cons (Rep.mono s a) (RepK.mono s b)
theorem RepT.mono (s : Same F F') : ∀ {vs : List (List Key × V)} {ds : List (List Key × D)}, RepT K F vs ds → RepT K F' vs ds
  | _, _, .nil => .nil
  | _, _, .cons a b => .cons (Rep.mono s a) (RepT.mono s b)
end

/-- what may be changed: lists and dicts -/
inductive RepW (K : Fr) (F : Hp) : HO → D → Prop
  | lst {vs : List V} {ds : List D} : RepL K F vs ds → RepW K F (.lst vs) (.lst ds)
  | dK {kvs : List (Key × V)} {kds : List (Key × D)} : RepK K F kvs kds → RepW K F (.dK kvs) (.dK kds)
  | dT {kvs : List (List Key × V)} {kds : List (List Key × D)} : RepT K F kvs kds → RepW K F (.dT kvs) (.dT kds)
theorem RepW.toO {o : HO} {d : D} (h : RepW K F o d) : RepO K F o d := by
  cases h with
  | lst r => exact .lst r
  | dK r => exact .dK r
  | dT r => exact .dT r
theorem RepW.mono {o : HO} {d : D} (s : Same F F') (h : RepW K F o d) : RepW K F' o d := by
  cases h with
  | lst r => exact .lst (r.mono s)
  | dK r => exact .dK (r.mono s)
  | dT r => exact .dT (r.mono s)
theorem RepL.length : ∀ {vs : List V} {ds : List D}, RepL K F vs ds → vs.length = ds.length
  | _, _, .nil => rfl
  | _, _, .cons _ b => by simp [RepL.length b]
theorem RepL.get : ∀ {vs : List V} {ds : List D} {i : Nat} {d : D}, RepL K F vs ds → ds[i]? = some d → ∃ v, vs[i]? = some v ∧ Rep K F v d
  | _, _, _, _, .nil, e => by simp at e
  | _, _, 0, _, .cons r _, e => by simp at e; subst e; exact ⟨_, rfl, r⟩
  | _, _, i + 1, _, .cons _ t, e => by
    obtain ⟨v, h1, h2⟩ := RepL.get (i := i) t (by simpa using e)
    exact ⟨v, by simpa using h1, h2⟩
theorem RepL.getV : ∀ {vs : List V} {ds : List D} {i : Nat} {v : V}, RepL K F vs ds → vs[i]? = some v → ∃ d, ds[i]? = some d ∧ Rep K F v d
  | _, _, _, _, .nil, e => by simp at e
  | _, _, 0, _, .cons r _, e => by simp at e; subst e; exact ⟨_, rfl, r⟩
  | _, _, i + 1, _, .cons _ t, e => by
    obtain ⟨v, h1, h2⟩ := RepL.getV (i := i) t (by simpa using e)
    exact ⟨v, by simpa using h1, h2⟩
theorem RepL.append : ∀ {vs ws : List V} {ds es : List D}, RepL K F vs ds → RepL K F ws es → RepL K F (vs ++ ws) (ds ++ es)
  | _, _, _, _, .nil, s => s
  | _, _, _, _, .cons r t, s => .cons r (RepL.append t s)
theorem RepL.take : ∀ {vs : List V} {ds : List D} (n : Nat), RepL K F vs ds → RepL K F (vs.take n) (ds.take n)
  | _, _, 0, _ => .nil
  | _, _, _ + 1, .nil => .nil
  | _, _, n + 1, .cons r t => .cons r (RepL.take n t)
theorem RepL.drop : ∀ {vs : List V} {ds : List D} (n : Nat), RepL K F vs ds → RepL K F (vs.drop n) (ds.drop n)
  | _, _, 0, r => r
  | _, _, _ + 1, .nil => .nil
  | _, _, n + 1, .cons _ t => RepL.drop n t
theorem RepL.set {x : V} {d : D} (r : Rep K F x d) : ∀ {vs : List V} {ds : List D} (i : Nat), RepL K F vs ds → RepL K F (vs.set i x) (ds.set i d)
  | _, _, _, .nil => .nil
  | _, _, 0, .cons _ t => .cons r t
  | _, _, i + 1, .cons q t => .cons q (RepL.set r i t)
theorem RepL.eraseIdx : ∀ {vs : List V} {ds : List D} (i : Nat), RepL K F vs ds → RepL K F (vs.eraseIdx i) (ds.eraseIdx i)
  | _, _, _, .nil => .nil
  | _, _, 0, .cons _ t => t
  | _, _, i + 1, .cons q t => .cons q (RepL.eraseIdx i t)
theorem RepL.reverse {vs : List V} {ds : List D} (h : RepL K F vs ds) : RepL K F vs.reverse ds.reverse := by
  induction vs generalizing ds with
  | nil => cases h; exact .nil
  | cons v vs ih =>
    cases h with
    | cons a b => rw [List.reverse_cons, List.reverse_cons]; exact (ih b).append (.cons a .nil)
theorem RepL.ints : ∀ {vs : List V} {ns : List Int}, RepL K F vs (ns.map D.int) → vs = ns.map V.int
  | [], [], _ => rfl
  | v :: vs, n :: ns, h => by
    cases h with
    | cons a b =>
      have e := RepL.ints b
      have e1 : v = .int n := by
        generalize hd : D.int n = d at a
        cases a with
        | int i => cases hd; rfl
        | ob h r => subst hd; cases r
        | _ => cases hd
      rw [e, e1]; rfl
  | [], _ :: _, h => by cases h
  | _ :: _, [], h => by cases h
theorem RepL.ofInts : ∀ (ns : List Int), RepL K F (ns.map V.int) (ns.map D.int)
  | [] => .nil
  | n :: ns => .cons (.int n) (RepL.ofInts ns)
theorem Rep.int_inv {v : V} {i : Int} (h : Rep K F v (.int i)) : v = .int i := by
  generalize hd : D.int i = d at h
  cases h with
  | int i => cases hd; rfl
  | ob h r => subst hd; cases r
  | _ => cases hd
theorem Rep.bl_inv {v : V} {i : Bool} (h : Rep K F v (.bl i)) : v = .bl i := by
  generalize hd : D.bl i = d at h
  cases h with
  | bl i => cases hd; rfl
  | ob h r => subst hd; cases r
  | _ => cases hd
theorem Rep.str_inv {v : V} {i : Str} (h : Rep K F v (.str i)) : v = .str i := by
  generalize hd : D.str i = d at h
  cases h with
  | str i => cases hd; rfl
  | ob h r => subst hd; cases r
  | _ => cases hd
theorem Rep.non_inv {v : V} (h : Rep K F v .non) : v = .non := by
  generalize hd : D.non = d at h
  cases h with
  | non => rfl
  | ob h r => subst hd; cases r
  | _ => cases hd
theorem Rep.lst_inv {v : V} {ds : List D} (h : Rep K F v (.lst ds)) : ∃ a vs, v = .ref a ∧ F a = some (.lst vs) ∧ RepL K F vs ds := by
  generalize hd : D.lst ds = d at h
  cases h with
  | ob h r => subst hd; cases r with | lst r => exact ⟨_, _, rfl, h, r⟩
  | _ => cases hd
theorem Rep.tup_inv {v : V} {ds : List D} (h : Rep K F v (.tup ds)) : ∃ a vs, v = .ref a ∧ F a = some (.tup vs) ∧ RepL K F vs ds := by
  generalize hd : D.tup ds = d at h
  cases h with
  | ob h r => subst hd; cases r with | tup r => exact ⟨_, _, rfl, h, r⟩
  | _ => cases hd
theorem Rep.scr_inv {v : V} {ns : List Int} (h : Rep K F v (.scr ns)) : ∃ a, v = .ref a ∧ SqL K F a (ns.map V.int) := by
  generalize hd : D.scr ns = d at h
  cases h with
  | ob h r => subst hd; cases r
  | scr h => cases hd; exact ⟨_, rfl, h⟩
  | _ => cases hd
end

/-! ### growing -/
structure Grow (F H F' H' : Hp) : Prop where
  ff : Same F F'
  hh : Same H H'
  fh : Same F' H'
  ow : ∀ a, H a ≠ none → F a = none → F' a = none
theorem Grow.refl {F H : Hp} (s : Same F H) : Grow F H F H := ⟨Same.refl F, Same.refl H, s, fun _ _ h => h⟩
theorem Grow.trans {F H F1 H1 F2 H2 : Hp} (a : Grow F H F1 H1) (b : Grow F1 H1 F2 H2) : Grow F H F2 H2 :=
  ⟨a.ff.trans b.ff, a.hh.trans b.hh, b.fh, fun x h1 h2 => b.ow x (by
    cases e : H x with
    | none => exact absurd e h1
    | some o => rw [a.hh _ _ e]; simp) (a.ow x h1 h2)⟩
theorem same_new {H : Hp} {p : Addr} {o : HO} (n : H p = none) : Same H (upd H p o) := fun b u e => by
  rw [upd_ne (ne_of_none e n)]; exact e
theorem Grow.new {F H : Hp} {p : Addr} {o : HO} (s : Same F H) (n : H p = none) : Grow F H (upd F p o) (upd H p o) := by
  have nf : F p = none := s.free n
  refine ⟨same_new nf, same_new n, fun b u e => ?_, fun a h1 h2 => ?_⟩
  · by_cases hb : b = p
    · subst hb; rw [upd_same] at e ⊢; exact e
    · rw [upd_ne hb] at e ⊢; exact s _ _ e
  · have : a ≠ p := by rintro rfl; exact h1 n
    rw [upd_ne this]; exact h2
/-- a new object that is not frozen -/
theorem Grow.newH {F H : Hp} {p : Addr} {o : HO} (s : Same F H) (n : H p = none) : Grow F H F (upd H p o) :=
  ⟨Same.refl F, same_new n, s.trans (same_new n), fun _ _ h => h⟩
/-- an unfrozen object is frozen -/
theorem Grow.frz {F H F' H' : Hp} {p : Addr} {o : HO} (g : Grow F H F' H') (n : H p = none) (e : H' p = some o) (nf : F' p = none) : Grow F H (upd F' p o) H' := by
  refine ⟨g.ff.trans (same_new nf), g.hh, fun b u q => ?_, fun a h1 h2 => ?_⟩
  · by_cases hb : b = p
    · subst hb; rw [upd_same] at q; rw [e]; exact q
    · rw [upd_ne hb] at q; exact g.fh _ _ q
  · have : a ≠ p := by rintro rfl; exact h1 n
    rw [upd_ne this]; exact g.ow a h1 h2

/-! ### borrowed values -/
def BRep (K : Fr) (F H : Hp) (v : V) (d : D) : Prop := Rep K F v d ∨ ∃ a o, v = .ref a ∧ F a = none ∧ H a = some o ∧ RepW K F o d
inductive BRepL (K : Fr) (F H : Hp) : List V → List D → Prop
  | nil : BRepL K F H [] []
  | cons {v : V} {vs : List V} {d : D} {ds : List D} : BRep K F H v d → BRepL K F H vs ds → BRepL K F H (v :: vs) (d :: ds)
section
variable {K : Fr} {F H F' H' : Hp} {v : V}
theorem BRep.grow {d : D} (h : BRep K F H v d) (g : Grow F H F' H') : BRep K F' H' v d := by
  rcases h with h | ⟨a, o, e, n, q, r⟩
  · exact .inl (h.mono g.ff)
  · exact .inr ⟨a, o, e, g.ow a (by rw [q]; simp) n, g.hh _ _ q, r.mono g.ff⟩
theorem BRep.rep {d : D} (h : BRep K F H v d) (s : Same F H) : Rep K H v d := by
  rcases h with h | ⟨a, o, rfl, n, q, r⟩
  · exact h.mono s
  · exact .ob q (r.mono s).toO
theorem BRep.int {i : Int} (h : BRep K F H v (.int i)) : v = .int i := by
  rcases h with h | ⟨a, o, rfl, n, q, r⟩
  · exact h.int_inv
  · cases r
theorem BRep.bl {i : Bool} (h : BRep K F H v (.bl i)) : v = .bl i := by
  rcases h with h | ⟨a, o, rfl, n, q, r⟩
  · exact h.bl_inv
  · cases r
theorem BRep.str {i : Str} (h : BRep K F H v (.str i)) : v = .str i := by
  rcases h with h | ⟨a, o, rfl, n, q, r⟩
  · exact h.str_inv
  · cases r
theorem BRep.non (h : BRep K F H v .non) : v = .non := by
  rcases h with h | ⟨a, o, rfl, n, q, r⟩
  · exact h.non_inv
  · cases r
theorem BRep.lst {ds : List D} (h : BRep K F H v (.lst ds)) (s : Same F H) : ∃ a vs, v = .ref a ∧ H a = some (.lst vs) ∧ RepL K F vs ds := by
  rcases h with h | ⟨a, o, rfl, n, q, r⟩
  · obtain ⟨a, vs, rfl, h, r⟩ := h.lst_inv; exact ⟨a, vs, rfl, s _ _ h, r⟩
  · cases r with | lst r => exact ⟨a, _, rfl, q, r⟩
theorem BRep.tup {ds : List D} (h : BRep K F H v (.tup ds)) (s : Same F H) : ∃ a vs, v = .ref a ∧ H a = some (.tup vs) ∧ RepL K F vs ds := by
  rcases h with h | ⟨a, o, rfl, n, q, r⟩
  · obtain ⟨a, vs, rfl, h, r⟩ := h.tup_inv; exact ⟨a, vs, rfl, s _ _ h, r⟩
  · cases r
theorem BRep.scr {ns : List Int} (h : BRep K F H v (.scr ns)) (s : Same F H) : ∃ a, v = .ref a ∧ SqL K H a (ns.map V.int) := by
  rcases h with h | ⟨a, o, rfl, n, q, r⟩
  · obtain ⟨a, rfl, h'⟩ := h.scr_inv; exact ⟨a, rfl, s.seq h'⟩
  · cases r
theorem BRepL.grow : ∀ {vs : List V} {ds : List D}, BRepL K F H vs ds → Grow F H F' H' → BRepL K F' H' vs ds
  | _, _, .nil, _ => .nil
  | _, _, .cons a b, g => .cons (a.grow g) (b.grow g)
theorem BRepL.repH : ∀ {vs : List V} {ds : List D}, BRepL K F H vs ds → Same F H → RepL K H vs ds
  | _, _, .nil, _ => .nil
  | _, _, .cons a b, g => .cons (a.rep g) (b.repH g)
theorem BRepL.length : ∀ {vs : List V} {ds : List D}, BRepL K F H vs ds → vs.length = ds.length
  | _, _, .nil => rfl
  | _, _, .cons _ b => by simp [BRepL.length b]
end

/-! ### environments -/
inductive Sl where
  | val (d : D) | own (d : D)
abbrev GE := List (Option Sl)
def SlOk (K : Fr) (HB F H : Hp) (x : Option (Option V)) : Sl → Prop
  | .val d => ∃ v, x = some (some v) ∧ Rep K F v d
  | .own d => ∃ a o, x = some (some (.ref a)) ∧ HB a = none ∧ F a = none ∧ H a = some o ∧ RepW K F o d
structure J (K : Fr) (B HB F : Hp) (Γ : GE) (σ : L2.St) (H : Hp) : Prop where
  gr : Grow B HB F H
  len : Γ.length = σ.length
  sl : ∀ (i : Nat) s, Γ[i]? = some (some s) → SlOk K HB F H σ[i]? s
  ow : ∀ (i j : Nat) d d' a, i ≠ j → Γ[i]? = some (some (.own d)) → Γ[j]? = some (some (.own d')) → σ[i]? = some (some (.ref a)) → σ[j]? ≠ some (some (.ref a))
section
variable {K : Fr} {B HB F H F' H' : Hp} {Γ : GE} {σ : L2.St}
theorem J.fh (j : J K B HB F Γ σ H) : Same F H := j.gr.fh
theorem SlOk.grow {x : Option (Option V)} {s : Sl} (h : SlOk K HB F H x s) (g : Grow F H F' H') : SlOk K HB F' H' x s := by
  cases s with
  | val d => obtain ⟨v, e, r⟩ := h; exact ⟨v, e, r.mono g.ff⟩
  | own d => obtain ⟨a, o, e, n1, n2, q, r⟩ := h; exact ⟨a, o, e, n1, g.ow a (by rw [q]; simp) n2, g.hh _ _ q, r.mono g.ff⟩
theorem J.grow (j : J K B HB F Γ σ H) (g : Grow F H F' H') : J K B HB F' Γ σ H' := ⟨j.gr.trans g, j.len, fun i s e => (j.sl i s e).grow g, j.ow⟩
theorem J.rebase (j : J K B HB F Γ σ H) : J K F HB F Γ σ H := ⟨⟨Same.refl F, j.gr.hh, j.gr.fh, fun _ _ h => h⟩, j.len, j.sl, j.ow⟩
theorem J.unbase {B' : Hp} (j : J K B' HB F Γ σ H) (g : Grow B HB B' H') : J K B HB F Γ σ H :=
  ⟨⟨g.ff.trans j.gr.ff, j.gr.hh, j.gr.fh, fun a h1 h2 => j.gr.ow a h1 (g.ow a h1 h2)⟩, j.len, j.sl, j.ow⟩
/-- a name is set to a frozen value -/
theorem J.set {v : V} {d : D} (j : J K B HB F Γ σ H) (i : Nat) (r : Rep K F v d) : J K B HB F (Γ.set i (some (.val d))) (σ.set i (some v)) H := by
  refine ⟨j.gr, by simp [j.len], fun k s e => ?_, fun k l d1 d2 a ne e1 e2 e3 => ?_⟩
  · by_cases h : i = k
    · subst h
      have hi : i < Γ.length := by
        rw [List.getElem?_set] at e
        split at e
        · split at e
          · assumption
          · cases e
        · exact absurd rfl (by assumption)
      rw [List.getElem?_set_self hi] at e
      cases e
      exact ⟨v, by rw [List.getElem?_set_self (by rw [← j.len]; exact hi)], r⟩
    · rw [List.getElem?_set_ne h] at e ⊢
      exact j.sl k s e
  · have nk : i ≠ k := by
      rintro rfl
      rw [List.getElem?_set] at e1
      split at e1
      · split at e1
        · cases e1
        · cases e1
      · exact absurd rfl (by assumption)
    have nl : i ≠ l := by
      rintro rfl
      rw [List.getElem?_set] at e2
      split at e2
      · split at e2
        · cases e2
        · cases e2
      · exact absurd rfl (by assumption)
    rw [List.getElem?_set_ne nk] at e1 e3
    rw [List.getElem?_set_ne nl] at e2 ⊢
    exact j.ow k l d1 d2 a ne e1 e2 e3
/-- a name is set to a new object of its own -/
theorem J.setOwn {p : Addr} {o : HO} {d : D} (j : J K B HB F Γ σ H) (i : Nat) (n1 : HB p = none) (n2 : F p = none) (e : H p = some o) (r : RepW K F o d)
    (ne : ∀ (k : Nat) d', Γ[k]? = some (some (.own d')) → σ[k]? ≠ some (some (.ref p))) : J K B HB F (Γ.set i (some (.own d))) (σ.set i (some (.ref p))) H := by
  refine ⟨j.gr, by simp [j.len], fun k s q => ?_, fun k l d1 d2 a nkl e1 e2 e3 => ?_⟩
  · by_cases h : i = k
    · subst h
      have hi : i < Γ.length := by
        rw [List.getElem?_set] at q
        split at q
        · split at q
          · assumption
          · cases q
        · exact absurd rfl (by assumption)
      rw [List.getElem?_set_self hi] at q
      cases q
      exact ⟨p, o, by rw [List.getElem?_set_self (by rw [← j.len]; exact hi)], n1, n2, e, r⟩
    · rw [List.getElem?_set_ne h] at q ⊢
      exact j.sl k s q
  · by_cases hk : i = k
    · subst hk
      have nl : i ≠ l := nkl
      rw [List.getElem?_set_ne nl] at e2 ⊢
      have hi : i < σ.length := by
        rw [List.getElem?_set] at e3
        split at e3
        · split at e3
          · assumption
          · cases e3
        · exact absurd rfl (by assumption)
      rw [List.getElem?_set_self hi] at e3
      cases e3
      exact ne l d2 e2
    · rw [List.getElem?_set_ne hk] at e1 e3
      by_cases hl : i = l
      · subst hl
        have hi : i < σ.length := by
          rw [← j.len]
          rw [List.getElem?_set] at e2
          split at e2
          · split at e2
            · assumption
            · cases e2
          · exact absurd rfl (by assumption)
        rw [List.getElem?_set_self hi]
        intro z
        cases z
        exact ne k d1 e1 e3
      · rw [List.getElem?_set_ne hl] at e2 ⊢
        exact j.ow k l d1 d2 a nkl e1 e2 e3
/-- an object of a name's own is changed -/
theorem J.write {i : Nat} {a : Addr} {o : HO} {d d' : D} (j : J K B HB F Γ σ H) (e : Γ[i]? = some (some (.own d))) (e2 : σ[i]? = some (some (.ref a))) (r : RepW K F o d') :
    J K B HB F (Γ.set i (some (.own d'))) σ (upd H a o) := by
  obtain ⟨a', o', ea, n1, n2, q, r'⟩ := j.sl i _ e
  rw [e2] at ea
  cases ea
  have hi : i < Γ.length := (List.getElem?_eq_some_iff.mp e).1
  have keep : ∀ b u, b ≠ a → H b = some u → upd H a o b = some u := fun b u nb h => by rw [upd_ne nb]; exact h
  refine ⟨⟨j.gr.ff, fun b u h => keep b u (by rintro rfl; rw [n1] at h; cases h) (j.gr.hh _ _ h), fun b u h => keep b u (by rintro rfl; rw [n2] at h; cases h) (j.gr.fh _ _ h), j.gr.ow⟩, by simp [j.len], fun k s h => ?_, fun k l d1 d2 b nkl e1 e2' e3 => ?_⟩
  · by_cases hk : i = k
    · subst hk
      rw [List.getElem?_set_self hi] at h
      cases h
      exact ⟨a, o, e2, n1, n2, upd_same, r⟩
    · rw [List.getElem?_set_ne hk] at h
      have z := j.sl k s h
      cases s with
      | val d => exact z
      | own d2 =>
        obtain ⟨b, u, eb, m1, m2, qb, rb⟩ := z
        refine ⟨b, u, eb, m1, m2, keep b u ?_ qb, rb⟩
        rintro rfl
        exact j.ow i k _ _ b hk e h e2 eb
  · have f1 : ∃ d0, Γ[k]? = some (some (.own d0)) := by
      by_cases hk : i = k
      · subst hk; exact ⟨_, e⟩
      · rw [List.getElem?_set_ne hk] at e1; exact ⟨_, e1⟩
    have f2 : ∃ d0, Γ[l]? = some (some (.own d0)) := by
      by_cases hk : i = l
      · subst hk; exact ⟨_, e⟩
      · rw [List.getElem?_set_ne hk] at e2'; exact ⟨_, e2'⟩
    obtain ⟨_, f1⟩ := f1
    obtain ⟨_, f2⟩ := f2
    exact j.ow k l _ _ b nkl f1 f2 e3
/-- an object of a name's own is frozen -/
theorem J.freeze {i : Nat} {d : D} (j : J K B HB F Γ σ H) (e : Γ[i]? = some (some (.own d))) : ∃ F', J K B HB F' (Γ.set i (some (.val d))) σ H := by
  obtain ⟨a, o, ea, n1, n2, q, r⟩ := j.sl i _ e
  have hi : i < Γ.length := (List.getElem?_eq_some_iff.mp e).1
  have sf : Same F (upd F a o) := same_new n2
  have sh : Same (upd F a o) H := fun b u h => by
    by_cases hb : b = a
    · subst hb; rw [upd_same] at h; rw [q]; exact h
    · rw [upd_ne hb] at h; exact j.fh _ _ h
  refine ⟨upd F a o, ⟨⟨j.gr.ff.trans sf, j.gr.hh, sh, fun b h1 h2 => ?_⟩, by simp [j.len], fun k s h => ?_, fun k l d1 d2 b nkl e1 e2 e3 => ?_⟩⟩
  · have : b ≠ a := by rintro rfl; exact h1 n1
    rw [upd_ne this]; exact j.gr.ow b h1 h2
  · by_cases hk : i = k
    · subst hk
      rw [List.getElem?_set_self hi] at h
      cases h
      exact ⟨.ref a, ea, .ob upd_same (r.mono sf).toO⟩
    · rw [List.getElem?_set_ne hk] at h
      have z := j.sl k s h
      cases s with
      | val d => obtain ⟨v, ev, rv⟩ := z; exact ⟨v, ev, rv.mono sf⟩
      | own d2 =>
        obtain ⟨b, u, eb, m1, m2, qb, rb⟩ := z
        refine ⟨b, u, eb, m1, ?_, qb, rb.mono sf⟩
        have : b ≠ a := by
          rintro rfl
          exact j.ow i k _ _ b hk e h ea eb
        rw [upd_ne this]; exact m2
  · have f1 : i ≠ k := by
      rintro rfl
      rw [List.getElem?_set_self hi] at e1; cases e1
    have f2 : i ≠ l := by
      rintro rfl
      rw [List.getElem?_set_self hi] at e2; cases e2
    rw [List.getElem?_set_ne f1] at e1
    rw [List.getElem?_set_ne f2] at e2
    exact j.ow k l _ _ b nkl e1 e2 e3
/-- a name is forgotten -/
theorem J.drop {i : Nat} (j : J K B HB F Γ σ H) : J K B HB F (Γ.set i none) σ H := by
  refine ⟨j.gr, by simp [j.len], fun k s h => ?_, fun k l d1 d2 b nkl e1 e2 e3 => ?_⟩
  · have f1 : i ≠ k := by
      rintro rfl
      rw [List.getElem?_set] at h
      split at h
      · split at h <;> cases h
      · exact absurd rfl (by assumption)
    rw [List.getElem?_set_ne f1] at h
    exact j.sl k s h
  · have f1 : i ≠ k := by
      rintro rfl
      rw [List.getElem?_set] at e1
      split at e1
      · split at e1 <;> cases e1
      · exact absurd rfl (by assumption)
    have f2 : i ≠ l := by
      rintro rfl
      rw [List.getElem?_set] at e2
      split at e2
      · split at e2 <;> cases e2
      · exact absurd rfl (by assumption)
    rw [List.getElem?_set_ne f1] at e1
    rw [List.getElem?_set_ne f2] at e2
    exact j.ow k l _ _ b nkl e1 e2 e3
end
end DL

set_option Elab.async false
set_option linter.all false
set_option maxRecDepth 100000
set_option maxHeartbeats 4000000
namespace DL
open PySem PySem.Spec PyProof.Rows L2

abbrev WE := GE → (D → Prop) → Prop
abbrev WT := GE → (Bool → Prop) → Prop
abbrev WA := GE → (List D → Prop) → Prop

/-! ### judgements -/
def SE (K : Fr) (t : TE) (f : WE) : Prop := ∀ (B HB F : Hp) (Γ : GE) (σ : L2.St) (H : Hp) (Q : VK) (Φ : D → Prop), J K B HB F Γ σ H → f Γ Φ → (∀ v d F' H', Grow F H F' H' → Rep K F' v d → Φ d → Q v H') → t σ H Q
def SB (K : Fr) (t : TE) (f : WE) : Prop := ∀ (B HB F : Hp) (Γ : GE) (σ : L2.St) (H : Hp) (Q : VK) (Φ : D → Prop), J K B HB F Γ σ H → f Γ Φ → (∀ v d F' H', Grow F H F' H' → BRep K F' H' v d → Φ d → Q v H') → t σ H Q
def SF (K : Fr) (t : TE) (f : WE) : Prop := ∀ (B HB F : Hp) (Γ : GE) (σ : L2.St) (H : Hp) (Q : VK) (Φ : D → Prop), J K B HB F Γ σ H → f Γ Φ →
    (∀ p o d F' H', Grow F H F' H' → F' p = none → H p = none → H' p = some o → RepW K F' o d → Φ d → Q (.ref p) H') → t σ H Q
def STt (K : Fr) (t : TT) (f : WT) : Prop := ∀ (B HB F : Hp) (Γ : GE) (σ : L2.St) (H : Hp) (Q : Bool → Hp → Prop) (Φ : Bool → Prop), J K B HB F Γ σ H → f Γ Φ → (∀ b F' H', Grow F H F' H' → Φ b → Q b H') → t σ H Q
def SA (K : Fr) (t : TA) (f : WA) : Prop := ∀ (B HB F : Hp) (Γ : GE) (σ : L2.St) (H : Hp) (Q : List V → Hp → Prop) (Φ : List D → Prop), J K B HB F Γ σ H → f Γ Φ → (∀ vs ds F' H', Grow F H F' H' → RepL K F' vs ds → Φ ds → Q vs H') → t σ H Q
def SAB (K : Fr) (t : TA) (f : WA) : Prop := ∀ (B HB F : Hp) (Γ : GE) (σ : L2.St) (H : Hp) (Q : List V → Hp → Prop) (Φ : List D → Prop), J K B HB F Γ σ H → f Γ Φ → (∀ vs ds F' H', Grow F H F' H' → BRepL K F' H' vs ds → Φ ds → Q vs H') → t σ H Q
/-- a frozen value -/
structure DE (K : Fr) (X : Cx) (e : Expr) (t : TE) (f : WE) : Prop where
  k : X.K = K
  p : PE X e t
  s : SE K t f
/-- a borrowed value -/
structure DB (K : Fr) (X : Cx) (e : Expr) (t : TE) (f : WE) : Prop where
  k : X.K = K
  p : PE X e t
  s : SB K t f
/-- a new object -/
structure DF (K : Fr) (X : Cx) (e : Expr) (t : TE) (f : WE) : Prop where
  k : X.K = K
  p : PE X e t
  s : SF K t f
structure DT (K : Fr) (X : Cx) (e : Expr) (t : TT) (f : WT) : Prop where
  k : X.K = K
  p : PT X e t
  s : STt K t f
structure DW (K : Fr) (X : Cx) (e : Expr) (t : TT) (f : WT) : Prop where
  k : X.K = K
  p : PW X e t
  s : STt K t f
structure DA (K : Fr) (X : Cx) (es : List Expr) (t : TA) (f : WA) : Prop where
  k : X.K = K
  p : PA X es t
  s : SA K t f
structure DAB (K : Fr) (X : Cx) (es : List Expr) (t : TA) (f : WA) : Prop where
  k : X.K = K
  p : PA X es t
  s : SAB K t f

section
variable {K : Fr} {X : Cx} {e a b c : Expr} {es rest : List Expr} {f fa fb fc : WE} {g ga gb : WT} {h : WA} {pos : Pos} {t ta tb tc : TE} {tg tga tgb : TT} {th : TA}

theorem DE.toB (he : DE K X e t f) : DB K X e t f := by
  obtain ⟨rfl, p, q⟩ := he
  exact ⟨rfl, p, fun B HB F Γ σ H Q Φ j w k => q B HB F Γ σ H Q Φ j w fun v d F' H' g r φ => k v d F' H' g (.inl r) φ⟩
theorem DF.toE (he : DF K X e t f) : DE K X e t f := by
  obtain ⟨rfl, p, q⟩ := he
  exact ⟨rfl, p, fun B HB F Γ σ H Q Φ j w k => q B HB F Γ σ H Q Φ j w fun p o d F' H' g n1 n2 eh r φ => k _ d _ H' (g.frz n2 eh n1) (.ob upd_same (r.mono (same_new n1)).toO) φ⟩
theorem DF.toB (he : DF K X e t f) : DB K X e t f := he.toE.toB

/-! ### names, constants -/
@[simp] def wVar (i : Nat) : WE := fun Γ Φ => ∃ d, Γ[i]? = some (some (.val d)) ∧ Φ d
@[simp] def wBor (i : Nat) : WE := fun Γ Φ => (∃ d, Γ[i]? = some (some (.val d)) ∧ Φ d) ∨ ∃ d, Γ[i]? = some (some (.own d)) ∧ Φ d
theorem de_var (i : Nat) {x : Str} (hk : X.K = K := by rfl) (hN : X.N[i]? = some x := by rfl) (hv : Vis X.env.scope x := by first | exact Or.inl rfl | exact Or.inr (Or.inl rfl) | exact Or.inr (Or.inr rfl)) (hd : (x == ("__debug__" : Str)) = false := by decide)
    (hcd : (x == ("__classdict__" : Str)) = false := by decide) : DE K X (.Name x pos) (tVar i) (wVar i) := by
  cases hk
  refine ⟨rfl, pe_var hN hv hd hcd, fun B HB F Γ σ H Q Φ j w k => ?_⟩
  obtain ⟨d, e, φ⟩ := w
  obtain ⟨v, ev, r⟩ := j.sl i _ e
  exact ⟨v, ev, k v d F H (.refl j.fh) r φ⟩
theorem db_var (i : Nat) {x : Str} (hk : X.K = K := by rfl) (hN : X.N[i]? = some x := by rfl) (hv : Vis X.env.scope x := by first | exact Or.inl rfl | exact Or.inr (Or.inl rfl) | exact Or.inr (Or.inr rfl)) (hd : (x == ("__debug__" : Str)) = false := by decide)
    (hcd : (x == ("__classdict__" : Str)) = false := by decide) : DB K X (.Name x pos) (tVar i) (wBor i) := by
  cases hk
  refine ⟨rfl, pe_var hN hv hd hcd, fun B HB F Γ σ H Q Φ j w k => ?_⟩
  rcases w with ⟨d, e, φ⟩ | ⟨d, e, φ⟩
  · obtain ⟨v, ev, r⟩ := j.sl i _ e
    exact ⟨v, ev, k v d F H (.refl j.fh) (.inl r) φ⟩
  · obtain ⟨a, o, ev, n1, n2, q, r⟩ := j.sl i _ e
    exact ⟨_, ev, k _ d F H (.refl j.fh) (.inr ⟨a, o, rfl, n2, q, r⟩) φ⟩
@[simp] def wC (d : D) : WE := fun _ Φ => Φ d
theorem de_c {v : V} {d : D} (hk : X.K = K) (he : PE X e (tC v)) (r : ∀ F, Rep K F v d) : DE K X e (tC v) (wC d) :=
  ⟨hk, he, fun B HB F Γ σ H Q Φ j w k => k v d F H (.refl j.fh) (r F) w⟩
theorem de_int {i j p} (hk : X.K = K := by rfl) : DE K X (.Constant (.int i) j p) (tC (.int i)) (wC (.int i)) := de_c hk pe_int fun _ => .int i
theorem de_bl {i j p} (hk : X.K = K := by rfl) : DE K X (.Constant (.bool i) j p) (tC (.bl i)) (wC (.bl i)) := de_c hk pe_bl fun _ => .bl i
theorem de_str {i j p} (hk : X.K = K := by rfl) : DE K X (.Constant (.str i) j p) (tC (.str i)) (wC (.str i)) := de_c hk pe_str fun _ => .str i
theorem de_non {j p} (hk : X.K = K := by rfl) : DE K X (.Constant .none j p) (tC .non) (wC .non) := de_c hk pe_non fun _ => .non
/-- a module's constant -/
theorem de_gint {x : Str} {i : Int} {t : Tok} {p : Pos} (hk : X.K = K := by rfl) (hg : Gl X x) (hm : X.mg x = some (.int i t)) (hd : (x == ("__debug__" : Str)) = false := by decide) : DE K X (.Name x p) (tC (.int i)) (wC (.int i)) :=
  de_c hk (pe_glob (v := .int i) hg hm ⟨t, rfl⟩ hd) fun _ => .int i

/-! ### two operands -/
abbrev W2 := D → D → (D → Prop) → Prop
def DOp2 (K : Fr) (r : R2) (w : W2) : Prop := ∀ (F H : Hp) (x y : V) (d e : D) (Q : VK) (Φ : D → Prop), Same F H → BRep K F H x d → BRep K F H y e → w d e Φ →
  (∀ v z F' H', Grow F H F' H' → Rep K F' v z → Φ z → Q v H') → r x y H Q
def DFp2 (K : Fr) (r : R2) (w : W2) : Prop := ∀ (F H : Hp) (x y : V) (d e : D) (Q : VK) (Φ : D → Prop), Same F H → BRep K F H x d → BRep K F H y e → w d e Φ →
  (∀ p o z F' H', Grow F H F' H' → F' p = none → H p = none → H' p = some o → RepW K F' o z → Φ z → Q (.ref p) H') → r x y H Q
@[simp] def w2 (w : W2) (fa fb : WE) : WE := fun Γ Φ => fa Γ fun x => fb Γ fun y => w x y Φ
theorem two_run {ta tb : TE} {r : R2} {w : W2} {B HB F : Hp} {Γ : GE} {σ : L2.St} {H : Hp} {Q : VK} {Φ : D → Prop}
    (qa : ∀ (B HB F : Hp) (Γ : GE) (σ : L2.St) (H : Hp) (Q : VK) (Φ : D → Prop), J K B HB F Γ σ H → fa Γ Φ → (∀ v d F' H', Grow F H F' H' → BRep K F' H' v d → Φ d → Q v H') → ta σ H Q)
    (qb : ∀ (B HB F : Hp) (Γ : GE) (σ : L2.St) (H : Hp) (Q : VK) (Φ : D → Prop), J K B HB F Γ σ H → fb Γ Φ → (∀ v d F' H', Grow F H F' H' → BRep K F' H' v d → Φ d → Q v H') → tb σ H Q)
    (j : J K B HB F Γ σ H) (hw : w2 w fa fb Γ Φ) (k : ∀ F' H' x y d e, Grow F H F' H' → J K B HB F' Γ σ H' → BRep K F' H' x d → BRep K F' H' y e → w d e Φ → r x y H' Q) : tOp r ta tb σ H Q := by
  refine qa B HB F Γ σ H _ _ j hw fun x d F1 H1 g1 r1 w1 => ?_
  refine qb B HB F1 Γ σ H1 _ _ (j.grow g1) w1 fun y e F2 H2 g2 r2 w2 => ?_
  exact k F2 H2 x y d e (g1.trans g2) ((j.grow g1).grow g2) (r1.grow g2) r2 w2
theorem de_op {op : Operator} {r : R2} {w : W2} (ho : X.K = K → OpR X (binaryOp op) r) (hd : DOp2 K r w) (ha : DB K X a ta fa) (hb : DB K X b tb fb) : DE K X (.BinOp a op b pos) (tOp r ta tb) (w2 w fa fb) := by
  obtain ⟨rfl, pa, qa⟩ := ha
  obtain ⟨_, pb, qb⟩ := hb
  refine ⟨rfl, pe_op (ho rfl) pa pb, fun B HB F Γ σ H Q Φ j w k => two_run qa qb j w fun F' H' x y d e g j' rx ry w' => ?_⟩
  exact hd F' H' x y d e Q Φ j'.fh rx ry w' fun v z F2 H2 g2 r φ => k v z F2 H2 (g.trans g2) r φ
theorem df_op {op : Operator} {r : R2} {w : W2} (ho : X.K = K → OpR X (binaryOp op) r) (hd : DFp2 K r w) (ha : DB K X a ta fa) (hb : DB K X b tb fb) : DF K X (.BinOp a op b pos) (tOp r ta tb) (w2 w fa fb) := by
  obtain ⟨rfl, pa, qa⟩ := ha
  obtain ⟨_, pb, qb⟩ := hb
  refine ⟨rfl, pe_op (ho rfl) pa pb, fun B HB F Γ σ H Q Φ j w k => two_run qa qb j w fun F' H' x y d e g j' rx ry w' => ?_⟩
  exact hd F' H' x y d e Q Φ j'.fh rx ry w' fun p o z F2 H2 g2 n1 n2 eh r φ => k p o z F2 H2 (g.trans g2) n1 (g.hh.free n2) eh r φ
theorem de_cmp {op : CmpOp} {r : R2} {w : W2} (ho : X.K = K → OpR X (compareOp op) r) (hd : DOp2 K r w) (ha : DB K X a ta fa) (hb : DB K X b tb fb) (hm : behindInMarks op b = false) : DE K X (.Compare a [op] [b] pos) (tOp r ta tb) (w2 w fa fb) := by
  obtain ⟨rfl, pa, qa⟩ := ha
  obtain ⟨_, pb, qb⟩ := hb
  refine ⟨rfl, pe_cmpR (ho rfl) pa pb hm, fun B HB F Γ σ H Q Φ j w k => two_run qa qb j w fun F' H' x y d e g j' rx ry w' => ?_⟩
  exact hd F' H' x y d e Q Φ j'.fh rx ry w' fun v z F2 H2 g2 r φ => k v z F2 H2 (g.trans g2) r φ
/-- a value that is a bool, as a test -/
@[simp] def wTest (f : WE) : WT := fun Γ Φ => f Γ fun d => ∃ k, d = .bl k ∧ Φ k
theorem dt_cmp {op : CmpOp} {r : R2} {w : W2} (ho : X.K = K → OpR X (compareOp op) r) (hd : DOp2 K r w) (ha : DB K X a ta fa) (hb : DB K X b tb fb) (hm : behindInMarks op b = false) : DT K X (.Compare a [op] [b] pos) (tTest (tOp r ta tb)) (wTest (w2 w fa fb)) := by
  obtain ⟨rfl, pa, qa⟩ := ha
  obtain ⟨_, pb, qb⟩ := hb
  refine ⟨rfl, pt_cmpR (ho rfl) pa pb hm, fun B HB F Γ σ H Q Φ j w k => two_run (w := _) (Φ := fun d => ∃ k, d = .bl k ∧ Φ k) qa qb j w fun F' H' x y d e g j' rx ry w' => ?_⟩
  refine hd F' H' x y d e _ _ j'.fh rx ry w' fun v z F2 H2 g2 r φ => ?_
  obtain ⟨c, rfl, φ⟩ := φ
  exact ⟨c, r.bl_inv, k c F2 H2 (g.trans g2) φ⟩
/-- a op b op' c -/
@[simp] def wChain (w w' : W2) (fa fb fc : WE) : WE := fun Γ Φ => fa Γ fun x => fb Γ fun y => w x y fun z => ∃ k, z = .bl k ∧ if k = true then fc Γ fun u => w' y u Φ else Φ (.bl false)
theorem chain_run {ta tb tc : TE} {r r' : R2} {w w' : W2} {B HB F : Hp} {Γ : GE} {σ : L2.St} {H : Hp} {Q : VK} {Φ : D → Prop}
    (qa : ∀ (B HB F : Hp) (Γ : GE) (σ : L2.St) (H : Hp) (Q : VK) (Φ : D → Prop), J K B HB F Γ σ H → fa Γ Φ → (∀ v d F' H', Grow F H F' H' → BRep K F' H' v d → Φ d → Q v H') → ta σ H Q)
    (qb : ∀ (B HB F : Hp) (Γ : GE) (σ : L2.St) (H : Hp) (Q : VK) (Φ : D → Prop), J K B HB F Γ σ H → fb Γ Φ → (∀ v d F' H', Grow F H F' H' → BRep K F' H' v d → Φ d → Q v H') → tb σ H Q)
    (qc : ∀ (B HB F : Hp) (Γ : GE) (σ : L2.St) (H : Hp) (Q : VK) (Φ : D → Prop), J K B HB F Γ σ H → fc Γ Φ → (∀ v d F' H', Grow F H F' H' → BRep K F' H' v d → Φ d → Q v H') → tc σ H Q)
    (hd : DOp2 K r w) (hd' : DOp2 K r' w')
    (j : J K B HB F Γ σ H) (hw : wChain w w' fa fb fc Γ Φ) (k : ∀ v d F' H', Grow F H F' H' → Rep K F' v d → Φ d → Q v H') : tChain r r' ta tb tc σ H Q := by
  refine qa B HB F Γ σ H _ _ j hw fun x d F1 H1 g1 r1 w1 => ?_
  refine qb B HB F1 Γ σ H1 _ _ (j.grow g1) w1 fun y e F2 H2 g2 r2 w2 => ?_
  have j2 := (j.grow g1).grow g2
  refine hd F2 H2 x y d e _ _ j2.fh (r1.grow g2) r2 w2 fun v z F3 H3 g3 r3 φ => ?_
  obtain ⟨c, rfl, φ⟩ := φ
  refine ⟨c, r3.bl_inv, ?_⟩
  have j3 := j2.grow g3
  cases c with
  | false => exact k _ _ F3 H3 ((g1.trans g2).trans g3) (.bl false) φ
  | true =>
    refine qc B HB F3 Γ σ H3 _ _ j3 φ fun u dd F4 H4 g4 r4 w4 => ?_
    exact hd' F4 H4 y u e dd _ _ (j3.grow g4).fh ((r2.grow g3).grow g4) r4 w4 fun v z F5 H5 g5 r5 φ5 => k v z F5 H5 ((((g1.trans g2).trans g3).trans g4).trans g5) r5 φ5
theorem de_chain {op op' : CmpOp} {r r' : R2} {w w' : W2} (ho : X.K = K → OpR X (compareOp op) r) (hd : DOp2 K r w) (ho' : X.K = K → OpR X (compareOp op') r') (hd' : DOp2 K r' w') (ha : DB K X a ta fa) (hb : DB K X b tb fb) (hc : DB K X c tc fc)
    (hm : lastMarks [op, op'] [b, c] = false := by with_unfolding_all rfl) : DE K X (.Compare a [op, op'] [b, c] pos) (tChain r r' ta tb tc) (wChain w w' fa fb fc) := by
  obtain ⟨rfl, pa, qa⟩ := ha
  obtain ⟨_, pb, qb⟩ := hb
  obtain ⟨_, pc, qc⟩ := hc
  exact ⟨rfl, pe_chain (ho rfl) (ho' rfl) pa pb pc hm, fun B HB F Γ σ H Q Φ j w k => chain_run qa qb qc hd hd' j w k⟩
theorem dt_chain {op op' : CmpOp} {r r' : R2} {w w' : W2} (ho : X.K = K → OpR X (compareOp op) r) (hd : DOp2 K r w) (ho' : X.K = K → OpR X (compareOp op') r') (hd' : DOp2 K r' w') (ha : DB K X a ta fa) (hb : DB K X b tb fb) (hc : DB K X c tc fc)
    (hm : lastMarks [op, op'] [b, c] = false := by with_unfolding_all rfl) : DT K X (.Compare a [op, op'] [b, c] pos) (tTest (tChain r r' ta tb tc)) (wTest (wChain w w' fa fb fc)) := by
  obtain ⟨rfl, pa, qa⟩ := ha
  obtain ⟨_, pb, qb⟩ := hb
  obtain ⟨_, pc, qc⟩ := hc
  refine ⟨rfl, pt_chain (ho rfl) (ho' rfl) pa pb pc hm, fun B HB F Γ σ H Q Φ j w k => chain_run qa qb qc hd hd' j w fun v d F' H' g r φ => ?_⟩
  obtain ⟨c, rfl, φ⟩ := φ
  exact ⟨c, r.bl_inv, k c F' H' g φ⟩

/-! ### one operand -/
abbrev W1 := D → (D → Prop) → Prop
@[simp] def w1 (w : W1) (fa : WE) : WE := fun Γ Φ => fa Γ fun x => w x Φ
@[simp] def wNeg : W1 | .int i, Φ => Φ (.int (-i)) | _, _ => False
theorem de_neg (ha : DE K X a ta fa) : DE K X (.UnaryOp .USub a pos) (tUn (rU fun i => .int (-i)) ta) (w1 wNeg fa) := by
  obtain ⟨rfl, pa, qa⟩ := ha
  refine ⟨rfl, pe_un un_neg pa, fun B HB F Γ σ H Q Φ j w k => qa B HB F Γ σ H _ _ j w fun v d F' H' g r φ => ?_⟩
  cases d with
  | int i => exact ⟨i, r.int_inv, k _ _ F' H' g (.int _) φ⟩
  | _ => exact φ.elim
/-- is None -/
@[simp] def wIsN (n : Bool) : W1 := fun d Φ => Φ (.bl (match d with | .non => !n | _ => n))
theorem isN_of {K : Fr} {F H : Hp} {v : V} {d : D} (r : BRep K F H v d) : decide (v = .non) = (match d with | .non => true | _ => false) := by
  rcases r with r | ⟨a, o, rfl, _, _, r⟩
  · cases r with
    | ob _ r => cases r <;> simp
    | _ => simp
  · cases r <;> simp
theorem de_isN {j p} (ha : DB K X a ta fa) : DE K X (.Compare a [.Is] [.Constant .none j p] pos) (tIsN ta) (w1 (wIsN false) fa) := by
  obtain ⟨rfl, pa, qa⟩ := ha
  refine ⟨rfl, pe_cmp (pc_isN pa) rfl, fun B HB F Γ σ H Q Φ j w k => qa B HB F Γ σ H _ _ j w fun v d F' H' g r φ => ?_⟩
  rw [isN_of r]
  exact k _ _ F' H' g (.bl _) (by cases d <;> exact φ)
theorem de_notN {j p} (ha : DB K X a ta fa) : DE K X (.Compare a [.IsNot] [.Constant .none j p] pos) (tNotN ta) (w1 (wIsN true) fa) := by
  obtain ⟨rfl, pa, qa⟩ := ha
  refine ⟨rfl, pe_cmp (pc_notN pa) rfl, fun B HB F Γ σ H Q Φ j w k => qa B HB F Γ σ H _ _ j w fun v d F' H' g r φ => ?_⟩
  rw [isN_of r]
  exact k _ _ F' H' g (.bl _) (by cases d <;> exact φ)

/-! ### tests -/
theorem dt_val (he : DE K X e t f) (hp : ∀ whole, isTrue e X.env whole = (do let v ← whole; standAt e.pos; holding [v] (truthy v)) := by intro _; rfl) : DT K X e (tB t) (wTest f) := by
  obtain ⟨rfl, p, q⟩ := he
  refine ⟨rfl, pt_val p hp, fun B HB F Γ σ H Q Φ j w k => q B HB F Γ σ H _ _ j w fun v d F' H' g r φ => ?_⟩
  obtain ⟨c, rfl, φ⟩ := φ
  exact ⟨c, r.bl_inv, k c F' H' g φ⟩
/-- is None, as a test -/
theorem dt_isN {j p} (ha : DB K X a ta fa) : DT K X (.Compare a [.Is] [.Constant .none j p] pos) (tB (tIsN ta)) (wTest (w1 (wIsN false) fa)) := by
  obtain ⟨rfl, pa, qa⟩ := ha
  refine ⟨rfl, pt_cmp (pc_isN pa) rfl, fun B HB F Γ σ H Q Φ j w k => qa B HB F Γ σ H _ _ j w fun v d F' H' g r φ => ?_⟩
  rw [isN_of r]
  obtain ⟨c, e, φ⟩ := φ
  refine ⟨_, rfl, k _ F' H' g ?_⟩
  cases d <;> (cases e; exact φ)
theorem dt_notN {j p} (ha : DB K X a ta fa) : DT K X (.Compare a [.IsNot] [.Constant .none j p] pos) (tB (tNotN ta)) (wTest (w1 (wIsN true) fa)) := by
  obtain ⟨rfl, pa, qa⟩ := ha
  refine ⟨rfl, pt_cmp (pc_notN pa) rfl, fun B HB F Γ σ H Q Φ j w k => qa B HB F Γ σ H _ _ j w fun v d F' H' g r φ => ?_⟩
  rw [isN_of r]
  obtain ⟨c, e, φ⟩ := φ
  refine ⟨_, rfl, k _ F' H' g ?_⟩
  cases d <;> (cases e; exact φ)
/-- by truth -/
@[simp] def truD : D → (Bool → Prop) → Prop
  | .non, Φ => Φ false
  | .bl b, Φ => Φ b
  | .int i, Φ => Φ (i != 0)
  | .str y, Φ => y.length ≤ sizeLine ∧ Φ ((y.length : Int) != 0)
  | .lst xs, Φ => Φ (!xs.isEmpty)
  | .tup xs, Φ => Φ (!xs.isEmpty)
  | .scr xs, Φ => Φ (!xs.isEmpty)
  | .dK xs, Φ => Φ (!xs.isEmpty)
  | .dT xs, Φ => False
theorem RepL.emp {K : Fr} {F : Hp} {vs : List V} {ds : List D} (r : RepL K F vs ds) : vs.isEmpty = ds.isEmpty := by cases r <;> rfl
theorem RepK.emp {K : Fr} {F : Hp} {vs : List (Key × V)} {ds : List (Key × D)} (r : RepK K F vs ds) : vs.isEmpty = ds.isEmpty := by cases r <;> rfl
theorem tru_of {K : Fr} {F H : Hp} {v : V} {d : D} {Φ : Bool → Prop} (s : Same F H) (r : BRep K F H v d) (h : truD d Φ) : ∃ k, TruV K v H k ∧ Φ k := by
  cases d with
  | non => rw [r.non]; exact ⟨false, rfl, h⟩
  | bl b => rw [r.bl]; exact ⟨_, rfl, h⟩
  | int b => rw [r.int]; exact ⟨_, rfl, h⟩
  | str b => rw [r.str]; exact ⟨_, ⟨h.1, rfl⟩, h.2⟩
  | lst xs => obtain ⟨a, vs, rfl, e, q⟩ := r.lst s; exact ⟨_, .inl ⟨vs, .of e, rfl⟩, by rw [q.emp]; exact h⟩
  | tup xs => obtain ⟨a, vs, rfl, e, q⟩ := r.tup s; exact ⟨_, .inr (.inl ⟨vs, .of e, rfl⟩), by rw [q.emp]; exact h⟩
  | scr xs => obtain ⟨a, rfl, e⟩ := r.scr s; have h' : Φ (!xs.isEmpty) := h; exact ⟨_, .inl ⟨_, e, rfl⟩, by simpa using h'⟩
  | dK xs =>
    rcases r with r | ⟨a, o, rfl, n, q, r⟩
    · cases r with
      | ob e r => cases r with | dK r => exact ⟨_, .inr (.inr ⟨_, s _ _ e, rfl⟩), by rw [r.emp]; exact h⟩
    · cases r with | dK r => exact ⟨_, .inr (.inr ⟨_, q, rfl⟩), by rw [r.emp]; exact h⟩
  | dT xs => exact h.elim
def tTru (K : Fr) (t : TE) : TT := fun σ H Q => t σ H fun x H' => ∃ k, TruV K x H' k ∧ Q k H'
@[simp] def wTru (f : WE) : WT := fun Γ Φ => f Γ fun d => truD d Φ
theorem dt_tru (he : DB K X e t f) (hp : ∀ whole, isTrue e X.env whole = (do let v ← whole; standAt e.pos; holding [v] (truthy v)) := by intro _; rfl) : DT K X e (tTru K t) (wTru f) := by
  obtain ⟨rfl, p, q⟩ := he
  refine ⟨rfl, pt_truth p hp, fun B HB F Γ σ H Q Φ j w k => q B HB F Γ σ H _ _ j w fun v d F' H' g r φ => ?_⟩
  obtain ⟨c, h1, h2⟩ := tru_of (j.grow g).fh r φ
  exact ⟨c, h1, k c F' H' g h2⟩
@[simp] def wAnd (f g : WT) : WT := fun Γ Φ => f Γ fun c => if c = true then g Γ Φ else Φ false
@[simp] def wOr (f g : WT) : WT := fun Γ Φ => f Γ fun c => if c = true then Φ true else g Γ Φ
@[simp] def wNot (f : WT) : WT := fun Γ Φ => f Γ fun c => Φ (!c)
theorem DW.toT (h : DW K X e tg g) : DT K X e tg g := by
  obtain ⟨rfl, p, q⟩ := h
  exact ⟨rfl, p.pt, q⟩
theorem dw_and1 (ha : DT K X a tg g) : DW K X (.BoolOp .And [a] pos) tg g := by
  obtain ⟨rfl, p, q⟩ := ha
  exact ⟨rfl, pw_and1 p, q⟩
theorem dw_or1 (ha : DT K X a tg g) : DW K X (.BoolOp .Or [a] pos) tg g := by
  obtain ⟨rfl, p, q⟩ := ha
  exact ⟨rfl, pw_or1 p, q⟩
theorem dw_and (ha : DT K X a tga ga) (hb : DW K X (.BoolOp .And (b :: rest) pos) tgb gb) : DW K X (.BoolOp .And (a :: b :: rest) pos) (tAnd tga tgb) (wAnd ga gb) := by
  obtain ⟨rfl, p, q⟩ := ha
  obtain ⟨_, p', q'⟩ := hb
  refine ⟨rfl, pw_and p p', fun B HB F Γ σ H Q Φ j w k => q B HB F Γ σ H _ _ j w fun c F' H' g φ => ?_⟩
  cases c with
  | true => exact q' B HB F' Γ σ H' _ _ (j.grow g) φ fun b F2 H2 g2 φ2 => k b F2 H2 (g.trans g2) φ2
  | false => exact k _ F' H' g φ
theorem dw_or (ha : DT K X a tga ga) (hb : DW K X (.BoolOp .Or (b :: rest) pos) tgb gb) : DW K X (.BoolOp .Or (a :: b :: rest) pos) (tOr tga tgb) (wOr ga gb) := by
  obtain ⟨rfl, p, q⟩ := ha
  obtain ⟨_, p', q'⟩ := hb
  refine ⟨rfl, pw_or p p', fun B HB F Γ σ H Q Φ j w k => q B HB F Γ σ H _ _ j w fun c F' H' g φ => ?_⟩
  cases c with
  | true => exact k _ F' H' g φ
  | false => exact q' B HB F' Γ σ H' _ _ (j.grow g) φ fun b F2 H2 g2 φ2 => k b F2 H2 (g.trans g2) φ2
theorem dt_not (ha : DT K X a tg g) : DT K X (.UnaryOp .Not a pos) (tNot tg) (wNot g) := by
  obtain ⟨rfl, p, q⟩ := ha
  exact ⟨rfl, pt_not p, fun B HB F Γ σ H Q Φ j w k => q B HB F Γ σ H _ _ j w fun c F' H' g φ => k _ F' H' g φ⟩
/-- as values -/
@[simp] def wAndV (f g : WE) : WE := fun Γ Φ => f Γ fun x => ∃ c, x = .bl c ∧ if c = true then g Γ Φ else Φ (.bl false)
@[simp] def wOrV (f g : WE) : WE := fun Γ Φ => f Γ fun x => ∃ c, x = .bl c ∧ if c = true then Φ (.bl true) else g Γ Φ
theorem de_one {op} (h : DE K X a t f) : DE K X (.BoolOp op [a] pos) t f := by
  obtain ⟨rfl, p, q⟩ := h
  exact ⟨rfl, pe_one p, q⟩
theorem de_and (ha : DE K X a ta fa) (hb : DE K X (.BoolOp .And (b :: rest) pos) tb fb) : DE K X (.BoolOp .And (a :: b :: rest) pos) (tAndV ta tb) (wAndV fa fb) := by
  obtain ⟨rfl, p, q⟩ := ha
  obtain ⟨_, p', q'⟩ := hb
  refine ⟨rfl, pe_and p p', fun B HB F Γ σ H Q Φ j w k => q B HB F Γ σ H _ _ j w fun v d F' H' g r φ => ?_⟩
  obtain ⟨c, rfl, φ⟩ := φ
  refine ⟨c, r.bl_inv, ?_⟩
  cases c with
  | true => exact q' B HB F' Γ σ H' _ _ (j.grow g) φ fun v d F2 H2 g2 r2 φ2 => k v d F2 H2 (g.trans g2) r2 φ2
  | false => exact k _ _ F' H' g (.bl _) φ
theorem de_or (ha : DE K X a ta fa) (hb : DE K X (.BoolOp .Or (b :: rest) pos) tb fb) : DE K X (.BoolOp .Or (a :: b :: rest) pos) (tOrV ta tb) (wOrV fa fb) := by
  obtain ⟨rfl, p, q⟩ := ha
  obtain ⟨_, p', q'⟩ := hb
  refine ⟨rfl, pe_or p p', fun B HB F Γ σ H Q Φ j w k => q B HB F Γ σ H _ _ j w fun v d F' H' g r φ => ?_⟩
  obtain ⟨c, rfl, φ⟩ := φ
  refine ⟨c, r.bl_inv, ?_⟩
  cases c with
  | false => exact q' B HB F' Γ σ H' _ _ (j.grow g) φ fun v d F2 H2 g2 r2 φ2 => k v d F2 H2 (g.trans g2) r2 φ2
  | true => exact k _ _ F' H' g (.bl _) φ
@[simp] def wNotV (f : WE) : WE := fun Γ Φ => f Γ fun x => ∃ c, x = .bl c ∧ Φ (.bl (!c))
theorem de_notV (ha : DE K X a ta fa) : DE K X (.UnaryOp .Not a pos) (tNotV ta) (wNotV fa) := by
  obtain ⟨rfl, p, q⟩ := ha
  refine ⟨rfl, pe_not p, fun B HB F Γ σ H Q Φ j w k => q B HB F Γ σ H _ _ j w fun v d F' H' g r φ => ?_⟩
  obtain ⟨c, rfl, φ⟩ := φ
  exact ⟨c, r.bl_inv, k _ _ F' H' g (.bl _) φ⟩
@[simp] def wIte (g : WT) (fa fb : WE) : WE := fun Γ Φ => g Γ fun c => if c = true then fa Γ Φ else fb Γ Φ
theorem de_ite (hc : DT K X c tg g) (ha : DE K X a ta fa) (hb : DE K X b tb fb) : DE K X (.IfExp c a b pos) (tIf tg ta tb) (wIte g fa fb) := by
  obtain ⟨rfl, p, q⟩ := hc
  obtain ⟨_, pa, qa⟩ := ha
  obtain ⟨_, pb, qb⟩ := hb
  refine ⟨rfl, pe_ifExp p pa pb, fun B HB F Γ σ H Q Φ j w k => q B HB F Γ σ H _ _ j w fun c F' H' g φ => ?_⟩
  cases c with
  | true => exact qa B HB F' Γ σ H' _ _ (j.grow g) φ fun v d F2 H2 g2 r2 φ2 => k v d F2 H2 (g.trans g2) r2 φ2
  | false => exact qb B HB F' Γ σ H' _ _ (j.grow g) φ fun v d F2 H2 g2 r2 φ2 => k v d F2 H2 (g.trans g2) r2 φ2

/-! ### arguments, displays -/
@[simp] def wNil : WA := fun _ Φ => Φ []
@[simp] def wCons (f : WE) (h : WA) : WA := fun Γ Φ => f Γ fun x => h Γ fun xs => Φ (x :: xs)
theorem da_nil (hk : X.K = K := by rfl) : DA K X [] tNil wNil := ⟨hk, pa_nil, fun B HB F Γ σ H Q Φ j w k => k [] [] F H (.refl j.fh) .nil w⟩
theorem da_cons (ha : DE K X e t f) (hr : DA K X es th h) (hs : starEach (e :: es) X.env = (false, eval e X.env) :: starEach es X.env := by rfl) : DA K X (e :: es) (tCons t th) (wCons f h) := by
  obtain ⟨rfl, p, q⟩ := ha
  obtain ⟨_, p', q'⟩ := hr
  refine ⟨rfl, pa_cons p p' hs, fun B HB F Γ σ H Q Φ j w k => q B HB F Γ σ H _ _ j w fun v d F' H' g r φ => ?_⟩
  exact q' B HB F' Γ σ H' _ _ (j.grow g) φ fun vs ds F2 H2 g2 r2 φ2 => k _ _ F2 H2 (g.trans g2) (.cons (r.mono g2.ff) r2) φ2
theorem dab_nil (hk : X.K = K := by rfl) : DAB K X [] tNil wNil := ⟨hk, pa_nil, fun B HB F Γ σ H Q Φ j w k => k [] [] F H (.refl j.fh) .nil w⟩
theorem dab_cons (ha : DB K X e t f) (hr : DAB K X es th h) (hs : starEach (e :: es) X.env = (false, eval e X.env) :: starEach es X.env := by rfl) : DAB K X (e :: es) (tCons t th) (wCons f h) := by
  obtain ⟨rfl, p, q⟩ := ha
  obtain ⟨_, p', q'⟩ := hr
  refine ⟨rfl, pa_cons p p' hs, fun B HB F Γ σ H Q Φ j w k => q B HB F Γ σ H _ _ j w fun v d F' H' g r φ => ?_⟩
  exact q' B HB F' Γ σ H' _ _ (j.grow g) φ fun vs ds F2 H2 g2 r2 φ2 => k _ _ F2 H2 (g.trans g2) (.cons (r.grow g2) r2) φ2
@[simp] def wLst (h : WA) : WE := fun Γ Φ => h Γ fun ds => ds.length ≤ sizeLine ∧ Φ (.lst ds)
@[simp] def wTup (h : WA) : WE := fun Γ Φ => h Γ fun ds => ds.length ≤ sizeLine ∧ Φ (.tup ds)
theorem df_lst (ha : DA K X es th h) : DF K X (.List es pos) (tLst th) (wLst h) := by
  obtain ⟨rfl, p, q⟩ := ha
  refine ⟨rfl, pe_lst p, fun B HB F Γ σ H Q Φ j w k => q B HB F Γ σ H _ _ j w fun vs ds F' H' g r φ => ?_⟩
  refine ⟨by rw [r.length]; exact φ.1, fun p n => ?_⟩
  have j' := j.grow g
  exact k p _ _ F' _ (g.trans (.newH j'.fh n)) (j'.fh.free n) (g.hh.free n) upd_same (.lst r) φ.2
theorem de_tup {x1} (ha : DA K X es th h) : DE K X (.Tuple es x1 pos) (tTup th) (wTup h) := by
  obtain ⟨rfl, p, q⟩ := ha
  refine ⟨rfl, pe_tup p, fun B HB F Γ σ H Q Φ j w k => q B HB F Γ σ H _ _ j w fun vs ds F' H' g r φ => ?_⟩
  refine ⟨by rw [r.length]; exact φ.1, fun p n => ?_⟩
  have j' := j.grow g
  have gn := Grow.new (p := p) (o := .tup vs) j'.fh n
  exact k _ _ _ _ (g.trans gn) (.ob upd_same (.tup (r.mono gn.ff))) φ.2

/-! ### calls of built-ins -/
abbrev WC := List D → (D → Prop) → Prop
def DCall (K : Fr) (r : List V → Hp → VK → Prop) (w : WC) : Prop := ∀ (F H : Hp) (vs : List V) (ds : List D) (Q : VK) (Φ : D → Prop), Same F H → BRepL K F H vs ds → w ds Φ →
  (∀ v z F' H', Grow F H F' H' → Rep K F' v z → Φ z → Q v H') → r vs H Q
def DFCall (K : Fr) (r : List V → Hp → VK → Prop) (w : WC) : Prop := ∀ (F H : Hp) (vs : List V) (ds : List D) (Q : VK) (Φ : D → Prop), Same F H → BRepL K F H vs ds → w ds Φ →
  (∀ p o z F' H', Grow F H F' H' → F' p = none → H p = none → H' p = some o → RepW K F' o z → Φ z → Q (.ref p) H') → r vs H Q
@[simp] def wCall (w : WC) (h : WA) : WE := fun Γ Φ => h Γ fun ds => w ds Φ
theorem de_blt {x : Str} {id : String} {r : List V → Hp → VK → Prop} {w : WC} {p : Pos} (hc : X.K = K → CallR X (.builtin id) r) (hd : DCall K r w) (hm : X.mg x = none) (ha : DAB K X (e :: es) th h) (hg : Gl X x := by rfl) (hv : bootBuiltins x = some (.builtin id) := by decide +kernel) (hn : x ≠ "__name__" := by decide) (hdb : (x == ("__debug__" : Str)) = false := by decide)
    (he : starEach (e :: es) X.env = (false, eval e X.env) :: starEach es X.env := by rfl) (hpl : (backTo pos (starEach es X.env)).any (·.1) = false := by rfl) : DE K X (.Call (.Name x p) (e :: es) [] pos) (tCB r th) (wCall w h) := by
  obtain ⟨rfl, pt, q⟩ := ha
  refine ⟨rfl, pe_callB (hc rfl) hg hm hv pt hn hdb he hpl, fun B HB F Γ σ H Q Φ j w k => q B HB F Γ σ H _ _ j w fun vs ds F' H' g r φ => ?_⟩
  exact hd F' H' vs ds Q Φ (j.grow g).fh r φ fun v z F2 H2 g2 r2 φ2 => k v z F2 H2 (g.trans g2) r2 φ2
theorem df_blt {x : Str} {id : String} {r : List V → Hp → VK → Prop} {w : WC} {p : Pos} (hc : X.K = K → CallR X (.builtin id) r) (hd : DFCall K r w) (hm : X.mg x = none) (ha : DAB K X (e :: es) th h) (hg : Gl X x := by rfl) (hv : bootBuiltins x = some (.builtin id) := by decide +kernel) (hn : x ≠ "__name__" := by decide) (hdb : (x == ("__debug__" : Str)) = false := by decide)
    (he : starEach (e :: es) X.env = (false, eval e X.env) :: starEach es X.env := by rfl) (hpl : (backTo pos (starEach es X.env)).any (·.1) = false := by rfl) : DF K X (.Call (.Name x p) (e :: es) [] pos) (tCB r th) (wCall w h) := by
  obtain ⟨rfl, pt, q⟩ := ha
  refine ⟨rfl, pe_callB (hc rfl) hg hm hv pt hn hdb he hpl, fun B HB F Γ σ H Q Φ j w k => q B HB F Γ σ H _ _ j w fun vs ds F' H' g r φ => ?_⟩
  exact hd F' H' vs ds Q Φ (j.grow g).fh r φ fun p o z F2 H2 g2 n1 n2 eh r2 φ2 => k p o z F2 H2 (g.trans g2) n1 (g.hh.free n2) eh r2 φ2
theorem de_ty {x : Str} {T : String} {r : List V → Hp → VK → Prop} {w : WC} {p : Pos} (hc : X.K = K → CallR X (.type T) r) (hd : DCall K r w) (hm : X.mg x = none) (ha : DAB K X (e :: es) th h) (hg : Gl X x := by rfl) (hv : bootBuiltins x = some (.type T) := by decide +kernel) (hn : x ≠ "__name__" := by decide) (hdb : (x == ("__debug__" : Str)) = false := by decide)
    (he : starEach (e :: es) X.env = (false, eval e X.env) :: starEach es X.env := by rfl) (hpl : (backTo pos (starEach es X.env)).any (·.1) = false := by rfl) : DE K X (.Call (.Name x p) (e :: es) [] pos) (tCB r th) (wCall w h) := by
  obtain ⟨rfl, pt, q⟩ := ha
  refine ⟨rfl, pe_callTy (hc rfl) hg hm hv pt hn hdb he hpl, fun B HB F Γ σ H Q Φ j w k => q B HB F Γ σ H _ _ j w fun vs ds F' H' g r φ => ?_⟩
  exact hd F' H' vs ds Q Φ (j.grow g).fh r φ fun v z F2 H2 g2 r2 φ2 => k v z F2 H2 (g.trans g2) r2 φ2
theorem df_ty {x : Str} {T : String} {r : List V → Hp → VK → Prop} {w : WC} {p : Pos} (hc : X.K = K → CallR X (.type T) r) (hd : DFCall K r w) (hm : X.mg x = none) (ha : DAB K X (e :: es) th h) (hg : Gl X x := by rfl) (hv : bootBuiltins x = some (.type T) := by decide +kernel) (hn : x ≠ "__name__" := by decide) (hdb : (x == ("__debug__" : Str)) = false := by decide)
    (he : starEach (e :: es) X.env = (false, eval e X.env) :: starEach es X.env := by rfl) (hpl : (backTo pos (starEach es X.env)).any (·.1) = false := by rfl) : DF K X (.Call (.Name x p) (e :: es) [] pos) (tCB r th) (wCall w h) := by
  obtain ⟨rfl, pt, q⟩ := ha
  refine ⟨rfl, pe_callTy (hc rfl) hg hm hv pt hn hdb he hpl, fun B HB F Γ σ H Q Φ j w k => q B HB F Γ σ H _ _ j w fun vs ds F' H' g r φ => ?_⟩
  exact hd F' H' vs ds Q Φ (j.grow g).fh r φ fun p o z F2 H2 g2 n1 n2 eh r2 φ2 => k p o z F2 H2 (g.trans g2) n1 (g.hh.free n2) eh r2 φ2

/-! ### items, slices -/
theorem de_ix {r : R2} {w : W2} (hr : X.K = K → IxR X r) (hd : DOp2 K r w) (ha : DB K X a ta fa) (hb : DB K X b tb fb) (hs : PlainIx b := by exact fun _ _ => rfl) : DE K X (.Subscript a b pos) (tOp r ta tb) (w2 w fa fb) := by
  obtain ⟨rfl, pa, qa⟩ := ha
  obtain ⟨_, pb, qb⟩ := hb
  refine ⟨rfl, pe_ix (hr rfl) pa pb hs, fun B HB F Γ σ H Q Φ j w k => two_run qa qb j w fun F' H' x y d e g j' rx ry w' => ?_⟩
  exact hd F' H' x y d e Q Φ j'.fh rx ry w' fun v z F2 H2 g2 r φ => k v z F2 H2 (g.trans g2) r φ
abbrev WO := GE → (Option Int → Prop) → Prop
structure DO (K : Fr) (X : Cx) (e : Option Expr) (t : TO) (f : WO) : Prop where
  k : X.K = K
  p : PO X e t
  s : ∀ (B HB F : Hp) (Γ : GE) (σ : L2.St) (H : Hp) (Q : Option Int → Hp → Prop) (Φ : Option Int → Prop), J K B HB F Γ σ H → f Γ Φ → (∀ o F' H', Grow F H F' H' → Φ o → Q o H') → t σ H Q
@[simp] def wNoPart : WO := fun _ Φ => Φ none
@[simp] def wPart (f : WE) : WO := fun Γ Φ => f Γ fun d => ∃ i, d = .int i ∧ Φ (some i)
theorem do_none (hk : X.K = K := by rfl) : DO K X none tNoPart wNoPart := ⟨hk, po_none, fun B HB F Γ σ H Q Φ j w k => k _ F H (.refl j.fh) w⟩
theorem do_some (he : DE K X e t f) : DO K X (some e) (tPart t) (wPart f) := by
  obtain ⟨rfl, p, q⟩ := he
  refine ⟨rfl, po_some p, fun B HB F Γ σ H Q Φ j w k => q B HB F Γ σ H _ _ j w fun v d F' H' g r φ => ?_⟩
  obtain ⟨i, rfl, φ⟩ := φ
  exact ⟨i, r.int_inv, k _ F' H' g φ⟩
def cutD (xs : List D) (lo hi : Option Int) : List D := (xs.drop (HT.sIx xs.length 0 lo)).take (HT.sIx xs.length xs.length hi - HT.sIx xs.length 0 lo)
theorem RepL.cut {K : Fr} {F : Hp} {vs : List V} {ds : List D} (r : RepL K F vs ds) (lo hi : Option Int) : RepL K F (cutV vs lo hi) (cutD ds lo hi) := by
  unfold cutV cutD
  rw [r.length]
  exact (r.drop _).take _
@[simp] def wSl (w : D → Option Int → Option Int → (D → Prop) → Prop) (fa : WE) (lo hi : WO) : WE := fun Γ Φ => fa Γ fun d => lo Γ fun l => hi Γ fun u => w d l u Φ
@[simp] def slL : D → Option Int → Option Int → (D → Prop) → Prop
  | .lst xs, l, u, Φ => Φ (.lst (cutD xs l u))
  | .scr ns, l, u, Φ => Φ (.lst (cutD (ns.map .int) l u))
  | _, _, _, _ => False
theorem df_slice {lo hi : Option Expr} {fl fh : WO} {tl tu : TO} {p2 : Pos} (ha : DB K X a ta fa) (hl : DO K X lo tl fl) (hh : DO K X hi tu fh) : DF K X (.Subscript a (.Slice lo hi none p2) pos) (tSl (rSlL K) ta tl tu) (wSl slL fa fl fh) := by
  obtain ⟨rfl, p, q⟩ := ha
  obtain ⟨_, pl, ql⟩ := hl
  obtain ⟨_, ph, qh⟩ := hh
  refine ⟨rfl, pe_slice sl_list p pl ph, fun B HB F Γ σ H Q Φ j w k => q B HB F Γ σ H _ _ j w fun v d F1 H1 g1 r φ => ?_⟩
  refine ql B HB F1 Γ σ H1 _ _ (j.grow g1) φ fun l F2 H2 g2 φ2 => ?_
  refine qh B HB F2 Γ σ H2 _ _ ((j.grow g1).grow g2) φ2 fun u F3 H3 g3 φ3 => ?_
  have g := (g1.trans g2).trans g3
  have j3 := j.grow g
  have r3 := (r.grow g2).grow g3
  cases d with
  | lst xs =>
    obtain ⟨a, vs, rfl, e, rl⟩ := r3.lst j3.fh
    exact ⟨a, vs, rfl, .of e, fun p n => k p _ _ F3 _ (g.trans (.newH j3.fh n)) (j3.fh.free n) (g.hh.free n) upd_same (.lst (rl.cut l u)) φ3⟩
  | scr ns =>
    obtain ⟨a, rfl, e⟩ := r3.scr j3.fh
    exact ⟨a, _, rfl, e, fun p n => k p _ _ F3 _ (g.trans (.newH j3.fh n)) (j3.fh.free n) (g.hh.free n) upd_same (.lst ((RepL.ofInts ns).cut l u)) φ3⟩
  | _ => exact φ3.elim
end
end DL

set_option Elab.async false
set_option linter.all false
set_option maxRecDepth 100000
set_option maxHeartbeats 4000000
namespace DL
open PySem PySem.Spec PyProof.Rows L2

/-! ### what is walked -/
structure Wk (K : Fr) (F : Hp) (Jt : It) (ds : List D) : Prop where
  stop : ∀ i H, Same F H → ds.length ≤ i → Jt.stop i H
  go : ∀ i H, Same F H → i < ds.length → Jt.go i H
  yld : ∀ i F1 H x H', Same F F1 → Same F1 H → i < ds.length → Jt.yld i H x H' → ∃ d F2, ds[i]? = some d ∧ Grow F1 H F2 H' ∧ Rep K F2 x d
theorem Wk.mono {K : Fr} {F F' : Hp} {Jt : It} {ds : List D} (h : Wk K F Jt ds) (s : Same F F') : Wk K F' Jt ds :=
  ⟨fun i H q => h.stop i H (s.trans q), fun i H q => h.go i H (s.trans q), fun i F1 H x H' q => h.yld i F1 H x H' (s.trans q)⟩
def SI (K : Fr) (t : TI) (f : WA) : Prop := ∀ (B HB F : Hp) (Γ : GE) (σ : L2.St) (H : Hp) (R : It → Hp → Prop) (Φ : List D → Prop), J K B HB F Γ σ H → f Γ Φ → (∀ Jt ds F' H', Grow F H F' H' → Wk K F' Jt ds → Φ ds → R Jt H') → t σ H R
structure DI (K : Fr) (X : Cx) (tg it : Expr) (t : TI) (f : WA) : Prop where
  k : X.K = K
  p : PI X tg it t
  s : SI K t f
theorem wk_list {K : Fr} {F : Hp} {a : Addr} {vs : List V} {ds : List D} (h : SqL K F a vs) (r : RepL K F vs ds) : Wk K F (Itl K a) ds := by
  refine ⟨fun i H s hi => ⟨vs, s.seq h, by rw [r.length]; exact hi⟩, fun i H s hi => ?_, fun i F1 H x H' s1 s2 hi y => ?_⟩
  · have hv : i < vs.length := by rw [r.length]; exact hi
    exact ⟨vs, vs[i], s.seq h, List.getElem?_eq_getElem hv⟩
  · obtain ⟨e, y⟩ := y
    subst e
    obtain ⟨d, e1, e2⟩ := r.getV (y vs ((s1.trans s2).seq h))
    exact ⟨d, F1, e1, .refl s2, e2.mono s1⟩
theorem same_sqT {K : Fr} {H H' : Hp} {a : Addr} {xs : List V} (e : Same H H') (h : SqT K H a xs) : SqT K H' a xs := by
  rcases h with (h | ⟨o, h⟩) | h
  · exact .inl (.inl (e _ _ h))
  · exact .inl (.inr ⟨o, e _ _ h⟩)
  · exact .inr h
theorem wk_tup {K : Fr} {F : Hp} {a : Addr} {vs : List V} {ds : List D} (h : SqT K F a vs) (r : RepL K F vs ds) : Wk K F (Itt K a) ds := by
  refine ⟨fun i H s hi => ⟨vs, same_sqT s h, by rw [r.length]; exact hi⟩, fun i H s hi => ?_, fun i F1 H x H' s1 s2 hi y => ?_⟩
  · have hv : i < vs.length := by rw [r.length]; exact hi
    exact ⟨vs, vs[i], same_sqT s h, List.getElem?_eq_getElem hv⟩
  · obtain ⟨e, y⟩ := y
    subst e
    obtain ⟨d, e1, e2⟩ := r.getV (y vs (same_sqT (s1.trans s2) h))
    exact ⟨d, F1, e1, .refl s2, e2.mono s1⟩
section
variable {K : Fr} {X : Cx} {tg e a b : Expr} {es : List Expr} {t ta tb : TE} {th : TA} {f fa fb : WE} {h : WA} {pos p : Pos}
@[simp] def iterL : D → (List D → Prop) → Prop
  | .lst ds, Φ => Φ ds
  | .scr ns, Φ => Φ (ns.map .int)
  | _, _ => False
@[simp] def iterT : D → (List D → Prop) → Prop
  | .tup ds, Φ => Φ ds
  | _, _ => False
@[simp] def wItL (f : WE) : WA := fun Γ Φ => f Γ fun d => iterL d Φ
@[simp] def wItT (f : WE) : WA := fun Γ Φ => f Γ fun d => iterT d Φ
theorem di_list (he : DE K X e t f) : DI K X tg e (iList K t) (wItL f) := by
  obtain ⟨rfl, p, q⟩ := he
  refine ⟨rfl, pi_list p, fun B HB F Γ σ H R Φ j w k => q B HB F Γ σ H _ _ j w fun v d F' H' g r φ => ?_⟩
  cases d with
  | lst ds =>
    obtain ⟨a, vs, rfl, e, rl⟩ := r.lst_inv
    exact ⟨a, rfl, ⟨vs, .of (g.fh _ _ e)⟩, k _ ds F' H' g (wk_list (.of e) rl) φ⟩
  | scr ns =>
    obtain ⟨a, rfl, e⟩ := r.scr_inv
    exact ⟨a, rfl, ⟨_, g.fh.seq e⟩, k _ _ F' H' g (wk_list e (RepL.ofInts ns)) φ⟩
  | _ => exact φ.elim
theorem di_tup (he : DE K X e t f) : DI K X tg e (iTup K t) (wItT f) := by
  obtain ⟨rfl, p, q⟩ := he
  refine ⟨rfl, pi_tup p, fun B HB F Γ σ H R Φ j w k => q B HB F Γ σ H _ _ j w fun v d F' H' g r φ => ?_⟩
  cases d with
  | tup ds =>
    obtain ⟨a, vs, rfl, e, rl⟩ := r.tup_inv
    exact ⟨a, rfl, ⟨vs, .of (g.fh _ _ e)⟩, k _ ds F' H' g (wk_tup (.of e) rl) φ⟩
  | _ => exact φ.elim
def rngD (lo : Int) (n : Nat) : List D := (List.range n).map fun (i : Nat) => D.int (lo + i)
theorem rngD_len (lo : Int) (n : Nat) : (rngD lo n).length = n := by simp [rngD]
theorem rngD_get {lo : Int} {n i : Nat} (h : i < n) : (rngD lo n)[i]? = some (.int (lo + i)) := by simp [rngD, h]
theorem wk_range {K : Fr} {F : Hp} (lo : Int) (n : Nat) : Wk K F (Itr lo n) (rngD lo n) := by
  refine ⟨fun i H s hi => ?_, fun i H s hi => ?_, fun i F1 H x H' s1 s2 hi y => ?_⟩
  · rw [rngD_len] at hi; exact hi
  · rw [rngD_len] at hi; exact hi
  · obtain ⟨rfl, rfl⟩ := y
    rw [rngD_len] at hi
    exact ⟨_, F1, rngD_get hi, .refl s2, .int _⟩
@[simp] def iterR1 : List D → (List D → Prop) → Prop
  | [.int j], Φ => -(2 ^ 62) ≤ j ∧ j < 2 ^ 62 ∧ Φ (rngD 0 j.toNat)
  | _, _ => False
@[simp] def iterR2 : List D → (List D → Prop) → Prop
  | [.int i, .int j], Φ => (-(2 ^ 62) ≤ i ∧ i < 2 ^ 62 ∧ -(2 ^ 62) ≤ j ∧ j < 2 ^ 62) ∧ Φ (rngD i (j - i).toNat)
  | _, _ => False
@[simp] def wItR1 (h : WA) : WA := fun Γ Φ => h Γ fun ds => iterR1 ds Φ
@[simp] def wItR2 (h : WA) : WA := fun Γ Φ => h Γ fun ds => iterR2 ds Φ
theorem di_range1 (hm : X.mg "range" = none) (ha : DA K X [a] th h) (hg : Gl X "range" := by rfl) (hs : starEach [a] X.env = [(false, eval a X.env)] := by rfl) : DI K X tg (.Call (.Name "range" p) [a] [] pos) (iRng1 th) (wItR1 h) := by
  obtain ⟨rfl, pt, q⟩ := ha
  refine ⟨rfl, pi_range1 hg hm pt hs, fun B HB F Γ σ H R Φ j w k => q B HB F Γ σ H _ _ j w fun vs ds F' H' g r φ => ?_⟩
  match ds, φ with
  | [.int i], φ =>
    cases r with
    | cons r1 r2 =>
      cases r2
      rw [r1.int_inv]
      exact ⟨i, rfl, φ.1, φ.2.1, k _ _ F' H' g (wk_range 0 _) φ.2.2⟩
theorem di_range2 (hm : X.mg "range" = none) (ha : DA K X [a, b] th h) (hg : Gl X "range" := by rfl) (hs : starEach [a, b] X.env = [(false, eval a X.env), (false, eval b X.env)] := by rfl) (hs2 : starEach [b] X.env = [(false, eval b X.env)] := by rfl) :
    DI K X tg (.Call (.Name "range" p) [a, b] [] pos) (iRng2 th) (wItR2 h) := by
  obtain ⟨rfl, pt, q⟩ := ha
  refine ⟨rfl, pi_range2 hg hm pt hs hs2, fun B HB F Γ σ H R Φ j w k => q B HB F Γ σ H _ _ j w fun vs ds F' H' g r φ => ?_⟩
  match ds, φ with
  | [.int i1, .int i2], φ =>
    cases r with
    | cons r1 r2 =>
      cases r2 with
      | cons r2 r3 =>
        cases r3
        rw [r1.int_inv, r2.int_inv]
        exact ⟨i1, i2, rfl, φ.1, k _ _ F' H' g (wk_range i1 _) φ.2⟩
/-- enumerate of a list -/
def enumD (ds : List D) : List D := ds.mapIdx fun (i : Nat) d => .tup [.int (i : Int), d]
theorem enumD_len (ds : List D) : (enumD ds).length = ds.length := by simp [enumD]
theorem enumD_get {ds : List D} {i : Nat} {d : D} (h : ds[i]? = some d) : (enumD ds)[i]? = some (.tup [.int (i : Int), d]) := by simp [enumD, h]
theorem wk_enum {K : Fr} {F : Hp} {a : Addr} {vs : List V} {ds : List D} (h : SqL K F a vs) (r : RepL K F vs ds) : Wk K F (Ite K a) (enumD ds) := by
  refine ⟨fun i H s hi => ⟨vs, s.seq h, by rw [r.length]; rw [enumD_len] at hi; exact hi⟩, fun i H s hi => ?_, fun i F1 H x H' s1 s2 hi y => ?_⟩
  · have hv : i < vs.length := by rw [r.length]; rw [enumD_len] at hi; exact hi
    exact ⟨vs, vs[i], s.seq h, List.getElem?_eq_getElem hv⟩
  · obtain ⟨T, x, rfl, nT, rfl, y⟩ := y
    obtain ⟨d, e1, e2⟩ := r.getV (y vs ((s1.trans s2).seq h))
    have g := Grow.new (p := T) (o := .tup [.int (i : Nat), x]) s2 nT
    exact ⟨_, _, enumD_get e1, g, .ob upd_same (.tup (.cons (.int _) (.cons ((e2.mono s1).mono g.ff) .nil)))⟩
@[simp] def iterE : List D → (List D → Prop) → Prop
  | [.lst ds], Φ => Φ (enumD ds)
  | [.scr ns], Φ => Φ (enumD (ns.map .int))
  | _, _ => False
@[simp] def wItE (h : WA) : WA := fun Γ Φ => h Γ fun ds => iterE ds Φ
theorem di_enum {elts : List Expr} {kk : Nat} {tpos : Pos} (hm : X.mg "enumerate" = none) (ha : DA K X [a] th h) (hg : Gl X "enumerate" := by rfl) (hs : starEach [a] X.env = [(false, eval a X.env)] := by rfl) :
    DI K X (.Tuple elts kk tpos) (.Call (.Name "enumerate" p) [a] [] pos) (iEnum K th) (wItE h) := by
  obtain ⟨rfl, pt, q⟩ := ha
  refine ⟨rfl, pi_enum hg hm pt hs, fun B HB F Γ σ H R Φ j w k => q B HB F Γ σ H _ _ j w fun vs ds F' H' g r φ => ?_⟩
  match ds, φ with
  | [.lst ds], φ =>
    cases r with
    | cons r1 r2 =>
      cases r2
      obtain ⟨a, vs, rfl, e, rl⟩ := r1.lst_inv
      exact ⟨a, vs, rfl, .of (g.fh _ _ e), k _ _ F' H' g (wk_enum (.of e) rl) φ⟩
  | [.scr ns], φ =>
    cases r with
    | cons r1 r2 =>
      cases r2
      obtain ⟨a, rfl, e⟩ := r1.scr_inv
      exact ⟨a, _, rfl, g.fh.seq e, k _ _ F' H' g (wk_enum e (RepL.ofInts ns)) φ⟩
/-- zip of two lists -/
def zipD (ds es : List D) : List D := List.zipWith (fun a b => D.tup [a, b]) ds es
theorem wk_zip {K : Fr} {F : Hp} {a b : Addr} {vs ws : List V} {ds es : List D} (h : SqL K F a vs) (r : RepL K F vs ds) (h' : SqL K F b ws) (r' : RepL K F ws es) : Wk K F (Itz K a b) (zipD ds es) := by
  have hl : (zipD ds es).length = min vs.length ws.length := by rw [r.length, r'.length]; simp [zipD]
  refine ⟨fun i H s hi => ⟨vs, ws, s.seq h, s.seq h', by omega⟩, fun i H s hi => ?_, fun i F1 H x H' s1 s2 hi y => ?_⟩
  · have hv : i < vs.length := by omega
    have hw : i < ws.length := by omega
    exact ⟨vs, ws, vs[i], ws[i], s.seq h, s.seq h', List.getElem?_eq_getElem hv, List.getElem?_eq_getElem hw⟩
  · obtain ⟨T, x, z, rfl, nT, rfl, y1, y2⟩ := y
    obtain ⟨d, e1, e2⟩ := r.getV (y1 vs ((s1.trans s2).seq h))
    obtain ⟨d', e1', e2'⟩ := r'.getV (y2 ws ((s1.trans s2).seq h'))
    have g := Grow.new (p := T) (o := .tup [x, z]) s2 nT
    exact ⟨.tup [d, d'], _, by simp [zipD, List.getElem?_zipWith, e1, e1'], g, .ob upd_same (.tup (.cons ((e2.mono s1).mono g.ff) (.cons ((e2'.mono s1).mono g.ff) .nil)))⟩
@[simp] def iterZ : List D → (List D → Prop) → Prop
  | [.lst ds, .lst es], Φ => Φ (zipD ds es)
  | _, _ => False
@[simp] def wItZ (h : WA) : WA := fun Γ Φ => h Γ fun ds => iterZ ds Φ
end

/-! ### targets -/
abbrev WG := D → GE → (GE → Prop) → Prop
abbrev WGs := List D → GE → (GE → Prop) → Prop
theorem wipe_get (σ : L2.St) : ∀ (vs : List Nat) (k : Nat), (wipe σ vs)[k]? = if k ∈ vs ∧ k < σ.length then some none else σ[k]?
  | [], k => by simp [wipe]
  | v :: vs, k => by
    unfold wipe
    rw [List.getElem?_set, wipe_length, wipe_get σ vs k]
    by_cases h : v = k
    · subst h
      by_cases hl : v < σ.length
      · simp [hl]
      · simp [hl]
    · have h' : k ≠ v := fun e => h e.symm
      simp [h, h']
theorem wipe_set {σ : L2.St} {i : Nat} {x : Option V} {vs : List Nat} (h : i ∈ vs) : wipe (σ.set i x) vs = wipe σ vs := by
  apply List.ext_getElem?
  intro k
  rw [wipe_get, wipe_get]
  by_cases hk : k = i
  · subst hk
    by_cases hl : k < σ.length
    · simp [h, hl]
    · simp [h, hl]
  · have : i ≠ k := fun e => hk e.symm
    simp [List.getElem?_set_ne this]
theorem wipe_wipe (σ : L2.St) (vs : List Nat) : wipe (wipe σ vs) vs = wipe σ vs := by
  apply List.ext_getElem?
  intro k
  rw [wipe_get, wipe_get, wipe_length]
  split <;> rfl
def SG (K : Fr) (S : List Nat) (t : TG) (g : WG) : Prop := ∀ (B HB F : Hp) (Γ : GE) (σ : L2.St) (H : Hp) (v : V) (d : D) (Q : L2.St → Hp → Prop) (Φ : GE → Prop), J K B HB F Γ σ H → Rep K F v d → g d Γ Φ →
    (∀ Γ' σ', J K B HB F Γ' σ' H → (∀ vs : List Nat, (∀ i ∈ S, i ∈ vs) → wipe σ' vs = wipe σ vs) → Φ Γ' → Q σ' H) → t v σ H Q
def SGs (K : Fr) (S : List Nat) (t : TGs) (g : WGs) : Prop := ∀ (B HB F : Hp) (Γ : GE) (σ : L2.St) (H : Hp) (vs : List V) (ds : List D) (Q : L2.St → Hp → Prop) (Φ : GE → Prop), J K B HB F Γ σ H → RepL K F vs ds → g ds Γ Φ →
    (∀ Γ' σ', J K B HB F Γ' σ' H → (∀ us : List Nat, (∀ i ∈ S, i ∈ us) → wipe σ' us = wipe σ us) → Φ Γ' → Q σ' H) → t vs σ H Q
structure DG (K : Fr) (X : Cx) (tg : Expr) (S : List Nat) (t : TG) (g : WG) : Prop where
  k : X.K = K
  p : PG X tg t
  s : SG K S t g
structure DGs (K : Fr) (X : Cx) (ts : List Expr) (S : List Nat) (t : TGs) (g : WGs) : Prop where
  k : X.K = K
  p : PGs X ts t
  s : SGs K S t g
section
variable {K : Fr} {X : Cx} {e : Expr} {es : List Expr} {pos : Pos}
@[simp] def gSet (i : Nat) : WG := fun d Γ Φ => Φ (Γ.set i (some (.val d)))
theorem dg_name (i : Nat) {x : Str} (hN : X.N.Nodup) (hk : X.K = K := by rfl) (hi : X.N[i]? = some x := by rfl) (hx : Loc X.env.scope x := by first | exact Or.inl rfl | exact Or.inr rfl) (hf : X.fn x = true ∨ X.env.scope.names.lookup x = some .local := by first | exact .inl rfl | exact .inr rfl) : DG K X (.Name x pos) [i] (gName i) (gSet i) := by
  refine ⟨hk, pg_name hN hi hx hf, fun B HB F Γ σ H v d Q Φ j r w k => ?_⟩
  exact k _ _ (j.set i r) (fun vs h => wipe_set (h i (by simp))) w
@[simp] def gsNil : WGs
  | [], Γ, Φ => Φ Γ
  | _ :: _, _, _ => False
@[simp] def gsCons (g : WG) (h : WGs) : WGs
  | d :: r, Γ, Φ => g d Γ fun Γ' => h r Γ' Φ
  | [], _, _ => False
theorem dgs_nil (hk : X.K = K := by rfl) : DGs K X [] [] gNil gsNil := by
  refine ⟨hk, pgs_nil, fun B HB F Γ σ H vs ds Q Φ j r w k => ?_⟩
  cases r with
  | nil => exact ⟨rfl, k _ _ j (fun _ _ => rfl) w⟩
  | cons _ _ => exact w.elim
theorem dgs_cons {S S' : List Nat} {t : TG} {u : TGs} {g : WG} {h : WGs} (h1 : DG K X e S t g) (h2 : DGs K X es S' u h)
    (hs : (assignEach (e :: es) X.env).map (·.2) = assign e X.env :: (assignEach es X.env).map (·.2) := by rfl) : DGs K X (e :: es) (S ++ S') (gCons t u) (gsCons g h) := by
  refine ⟨h1.k, pgs_cons h1.p h2.p hs, fun B HB F Γ σ H vs ds Q Φ j r w k => ?_⟩
  cases r with
  | nil => exact w.elim
  | cons r1 r2 =>
    refine ⟨_, _, rfl, h1.s B HB F Γ σ H _ _ _ _ j r1 w fun Γ1 σ1 j1 c1 φ1 => ?_⟩
    refine h2.s B HB F Γ1 σ1 H _ _ _ _ j1 r2 φ1 fun Γ2 σ2 j2 c2 φ2 => ?_
    exact k Γ2 σ2 j2 (fun us hu => (c2 us fun i hi => hu i (List.mem_append_right _ hi)).trans (c1 us fun i hi => hu i (List.mem_append_left _ hi))) φ2
@[simp] def gTupD (n : Nat) (h : WGs) : WG := fun d Γ Φ => match d with
  | .tup ds => ds.length = n ∧ h ds Γ Φ
  | _ => False
theorem dg_tup {k n : Nat} {S : List Nat} {t : TGs} {h : WGs} (hc : X.calm = true) (hh : DGs K X es S t h)
    (hn : (assignEach es X.env).length = n := by rfl) (hst : (assignEach es X.env).findIdx? (·.1) = none := by rfl) : DG K X (.Tuple es k pos) S (gTup K n t) (gTupD n h) := by
  obtain rfl := hh.k
  refine ⟨rfl, pg_tup hc hh.p hn hst, fun B HB F Γ σ H v d Q Φ j r w k => ?_⟩
  cases d with
  | tup ds =>
    obtain ⟨a, vs, rfl, e, rl⟩ := r.tup_inv
    exact ⟨a, vs, rfl, .of (j.fh _ _ e), by rw [rl.length]; exact w.1, hh.s B HB F Γ σ H vs ds Q Φ j rl w.2 k⟩
  | _ => exact w.elim
end

/-! ### comprehensions -/
structure DTs (K : Fr) (X : Cx) (ifs : List Expr) (t : TT) (f : WT) : Prop where
  k : X.K = K
  p : PTs X ifs t
  s : STt K t f
@[simp] def wYes : WT := fun _ Φ => Φ true
theorem dts_nil {K : Fr} {X : Cx} (hk : X.K = K := by rfl) : DTs K X [] tYes wYes := ⟨hk, pts_nil, fun B HB F Γ σ H Q Φ j w k => k true F H (.refl j.fh) w⟩
theorem dts_one {K : Fr} {X : Cx} {c : Expr} {t : TT} {f : WT} (h : DT K X c t f) : DTs K X [c] t f := ⟨h.k, pts_one h.p, h.s⟩
@[simp] def wipeG (Γ : GE) : List Nat → GE
  | [] => Γ
  | v :: vs => (wipeG Γ vs).set v none
def lcGo (g : WG) (tt : WT) (te : WE) (Γ : GE) : List D → List D → (List D → Prop) → Prop
  | [], acc, Φ => Φ acc
  | d :: ds, acc, Φ => g d Γ fun Γ1 => tt Γ1 fun b => if b = true then te Γ1 fun y => acc.length < sizeLine ∧ lcGo g tt te Γ ds (acc ++ [y]) Φ else lcGo g tt te Γ ds acc Φ
def wLc (wi : WA) (g : WG) (tt : WT) (te : WE) (vs : List Nat) : WE := fun Γ Φ => wi Γ fun ds => lcGo g tt te (wipeG Γ vs) ds [] fun ys => Φ (.lst ys)
theorem J.wipe {K : Fr} {B HB F H : Hp} {Γ : GE} {σ : L2.St} (j : J K B HB F Γ σ H) : ∀ vs : List Nat, J K B HB F (wipeG Γ vs) (L2.wipe σ vs) H
  | [] => j
  | v :: vs => by
    have j' := j.wipe vs
    unfold wipeG L2.wipe
    refine ⟨j'.gr, by simp [j'.len], fun k s h => ?_, fun k l d1 d2 b nkl e1 e2 e3 => ?_⟩
    · have f1 : v ≠ k := by
        rintro rfl
        rw [List.getElem?_set] at h
        split at h
        · split at h <;> cases h
        · exact absurd rfl (by assumption)
      rw [List.getElem?_set_ne f1] at h ⊢
      exact j'.sl k s h
    · have f1 : v ≠ k := by
        rintro rfl
        rw [List.getElem?_set] at e1
        split at e1
        · split at e1 <;> cases e1
        · exact absurd rfl (by assumption)
      have f2 : v ≠ l := by
        rintro rfl
        rw [List.getElem?_set] at e2
        split at e2
        · split at e2 <;> cases e2
        · exact absurd rfl (by assumption)
      rw [List.getElem?_set_ne f1] at e1 e3
      rw [List.getElem?_set_ne f2] at e2 ⊢
      exact j'.ow k l _ _ b nkl e1 e2 e3
theorem Grow.updNew {F H F' H' : Hp} {p : Addr} {o : HO} (g : Grow F H F' H') (n : H p = none) (nf : F' p = none) : Grow F H F' (upd H' p o) :=
  ⟨g.ff, fun b u e => by rw [upd_ne (ne_of_none e n)]; exact g.hh _ _ e, fun b u e => by rw [upd_ne (ne_of_none e nf)]; exact g.fh _ _ e, g.ow⟩
section
variable {K : Fr} {X : Cx} {elt tg iter : Expr} {ifs : List Expr} {scope : Scope} {own : List (Str × Nat)} {pos : Pos} {wi : TI} {g : TG} {tt : TT} {te : TE} {fi : WA} {fg : WG} {ft : WT} {fe : WE} {S : List Nat}
theorem lc_sound {K : Fr} {vs : List Nat} (hi : SI K wi fi) (hg : SG K S g fg) (ht : STt K tt ft) (he : SE K te fe) (hS : ∀ i ∈ S, i ∈ vs) : SF K (tLc wi g tt te vs) (wLc fi fg ft fe vs) := by
  intro B HB F Γ σ H Q Φ j w k
  refine hi B HB F Γ σ H _ _ j w fun Jt ds F1 H1 g1 wk φ => ?_
  intro D nD
  have j1 := j.grow g1
  have jw := j1.wipe vs
  refine ⟨fun i m H2 => ∃ F2 us acc, m = ds.length - i ∧ i ≤ ds.length ∧ Grow F1 H1 F2 H2 ∧ F2 D = none ∧ H2 D = some (.lst us) ∧ RepL K F2 us acc ∧ lcGo fg ft fe (wipeG Γ vs) (ds.drop i) acc fun ys => Φ (.lst ys),
    ⟨ds.length, F1, [], [], rfl, Nat.zero_le _, .newH j1.fh nD, j1.fh.free nD, upd_same, .nil, φ⟩, ?_⟩
  rintro i m H2 ⟨F2, us, acc, rfl, hi2, g2, nF, eD, ra, w2⟩
  by_cases hlt : i < ds.length
  · have s12 : Same F1 F2 := g2.ff
    refine .inr ⟨wk.go i H2 (s12.trans g2.fh) hlt, fun H' => ∃ F3 us' acc', Grow F1 H1 F3 H' ∧ F3 D = none ∧ H' D = some (.lst us') ∧ RepL K F3 us' acc' ∧ lcGo fg ft fe (wipeG Γ vs) (ds.drop (i + 1)) acc' fun ys => Φ (.lst ys),
      fun H' ⟨F3, us', acc', z⟩ => ⟨ds.length - (i + 1), by omega, F3, us', acc', rfl, hlt, z⟩, fun x H' y => ?_⟩
    obtain ⟨d, F3, ed, g3, r3⟩ := wk.yld i F2 H2 x H' s12 g2.fh hlt y
    have edrop : ds.drop i = d :: ds.drop (i + 1) := by
      have := List.getElem?_eq_some_iff.mp ed
      obtain ⟨h1, h2⟩ := this
      rw [← h2]; exact List.drop_eq_getElem_cons h1
    rw [edrop] at w2
    have g13 := g2.trans g3
    have nF3 : F3 D = none := g3.ow D (by rw [eD]; simp) nF
    have eD3 : H' D = some (.lst us) := g3.hh _ _ eD
    refine hg B HB F3 (wipeG Γ vs) (wipe σ vs) H' x d _ _ (jw.grow g13) r3 w2 fun Γ4 σ4 j4 c4 w4 => ?_
    refine ⟨(c4 vs hS).trans (wipe_wipe σ vs), ?_⟩
    refine ht B HB F3 Γ4 σ4 H' _ _ j4 w4 fun b F5 H5 g5 w5 => ?_
    have nF5 : F5 D = none := g5.ow D (by rw [eD3]; simp) nF3
    have eD5 : H5 D = some (.lst us) := g5.hh _ _ eD3
    cases b with
    | false => exact ⟨F5, us, acc, g13.trans g5, nF5, eD5, (ra.mono g3.ff).mono g5.ff, w5⟩
    | true =>
      refine he B HB F5 Γ4 σ4 H5 _ _ (j4.grow g5) w5 fun v y F6 H6 g6 r6 w6 => ?_
      have nF6 : F6 D = none := g6.ow D (by rw [eD5]; simp) nF5
      have eD6 : H6 D = some (.lst us) := g6.hh _ _ eD5
      have ra6 := ((ra.mono g3.ff).mono g5.ff).mono g6.ff
      refine ⟨us, eD6, by rw [ra6.length]; exact w6.1, F6, _, _, ((g13.trans g5).trans g6).updNew nD nF6, nF6, upd_same, ra6.append (.cons r6 .nil), w6.2⟩
  · have e : i = ds.length := by omega
    subst e
    rw [List.drop_length] at w2
    refine .inl ⟨wk.stop _ H2 (g2.ff.trans g2.fh) (Nat.le_refl _), ?_⟩
    exact k D _ _ F2 H2 (g1.trans g2) nF (g1.hh.free nD) eD (.lst ra) w2
theorem blk_ok (N : List Str) (sc : Scope) {scope : Scope} {own : List (Str × Nat)} (h : blkC N sc scope own = true) : BlkOk N sc scope own := blkOk_by h
theorem df_lc (hc : X.calm = true) (hN : X.N.Nodup) (hi : DI K X tg iter wi fi) (ok : BlkOk X.N X.env.scope scope own)
    (hg : ∀ (s : Shared) (H : Hp) (C : Addr) (cl : List (Str × Addr)) (fp : List Addr), DG K (X.blk s H scope (compEnvC scope cl C X.env) fp) tg S g fg)
    (ht : ∀ (s : Shared) (H : Hp) (C : Addr) (cl : List (Str × Addr)) (fp : List Addr), DTs K (X.blk s H scope (compEnvC scope cl C X.env) fp) ifs tt ft)
    (he : ∀ (s : Shared) (H : Hp) (C : Addr) (cl : List (Str × Addr)) (fp : List Addr), DE K (X.blk s H scope (compEnvC scope cl C X.env) fp) elt te fe)
    (hS : ∀ i ∈ S, i ∈ own.map (·.2) := by decide) (hs : ∀ x, foldedSetIterable iter X.env x = pure x := by intro _; rfl) : DF K X (.ListComp elt [⟨tg, iter, ifs, 0⟩] scope pos) (tLc wi g tt te (own.map (·.2))) (wLc fi fg ft fe (own.map (·.2))) := by
  refine ⟨hi.k, pe_lc hc hN hi.p ok (fun s H C cl fp => (hg s H C cl fp).p) (fun s H C cl fp => (ht s H C cl fp).p) (fun s H C cl fp => (he s H C cl fp).p) hs, ?_⟩
  exact lc_sound hi.s (hg ({} : Shared) (fun _ => none) 0 [] []).s (ht ({} : Shared) (fun _ => none) 0 [] []).s (he ({} : Shared) (fun _ => none) 0 [] []).s hS
end
end DL

set_option Elab.async false
set_option linter.all false
set_option maxRecDepth 100000
set_option maxHeartbeats 4000000
namespace DL
open PySem PySem.Spec PyProof.Rows L2

/-! ### statements -/
structure DK where
  nx : GE → Prop
  rt : D → Prop
  bk : GE → Prop := fun _ => False
  ct : GE → Prop := fun _ => False
abbrev WS := GE → DK → Prop
/-- a def's answer: a new object, or any value -/
def RepR (fr : Bool) (K : Fr) (F H HB : Hp) (v : V) (d : D) : Prop :=
  if fr = true then ∃ p o, v = .ref p ∧ HB p = none ∧ F p = none ∧ H p = some o ∧ RepW K F o d else Rep K F v d
structure KOk (fr : Bool) (K : Fr) (B HB : Hp) (κ : DK) (D : Ends) : Prop where
  nx : ∀ F Γ σ H, J K B HB F Γ σ H → κ.nx Γ → D.nx σ H
  rt : ∀ v d F H, Grow B HB F H → RepR fr K F H HB v d → κ.rt d → D.rt v H
  bk : ∀ F Γ σ H, J K B HB F Γ σ H → κ.bk Γ → D.bk σ H
  ct : ∀ F Γ σ H, J K B HB F Γ σ H → κ.ct Γ → D.ct σ H
def SS (fr : Bool) (K : Fr) (t : TS) (f : WS) : Prop := ∀ (B HB F : Hp) (Γ : GE) (σ : L2.St) (H : Hp) (D : Ends) (κ : DK), J K B HB F Γ σ H → f Γ κ → KOk fr K B HB κ D → t D σ H
structure DS (fr : Bool) (K : Fr) (X : Cx) (st : Stmt) (t : TS) (f : WS) : Prop where
  k : X.K = K
  p : PS X st t
  s : SS fr K t f
structure DSs (fr : Bool) (K : Fr) (X : Cx) (sts : List Stmt) (t : TS) (f : WS) : Prop where
  k : X.K = K
  p : PSs X sts t
  s : SS fr K t f
theorem Grow.base {B HB F H B' H1 : Hp} (g1 : Grow B HB B' H1) (g2 : Grow B' HB F H) : Grow B HB F H :=
  ⟨g1.ff.trans g2.ff, g2.hh, g2.fh, fun a h1 h2 => g2.ow a h1 (g1.ow a h1 h2)⟩
section
variable {fr : Bool} {K : Fr} {X : Cx} {st : Stmt} {rest a b : List Stmt} {e : Expr} {t u : TS} {te tb : TE} {tt : TT} {f g : WS} {fe fb : WE} {ft : WT} {pos : Pos}
@[simp] def sNext : WS := fun Γ κ => κ.nx Γ
@[simp] def sSeq (f g : WS) : WS := fun Γ κ => f Γ { κ with nx := fun Γ' => g Γ' κ }
theorem dss_nil (hk : X.K = K := by rfl) : DSs fr K X [] tNext sNext := ⟨hk, pss_nil, fun B HB F Γ σ H D κ j w k => k.nx F Γ σ H j w⟩
theorem dss_cons (h1 : DS fr K X st t f) (h2 : DSs fr K X rest u g) : DSs fr K X (st :: rest) (tSeq t u) (sSeq f g) :=
  ⟨h1.k, pss_cons h1.p h2.p, fun B HB F Γ σ H D κ j w k => h1.s B HB F Γ σ H _ _ j w ⟨fun F Γ σ H j w => h2.s B HB F Γ σ H D κ j w k, k.rt, k.bk, k.ct⟩⟩
theorem dss_one (h1 : DS fr K X st t f) : DSs fr K X [st] t f := ⟨h1.k, pss_one h1.p, h1.s⟩
@[simp] def sBreak : WS := fun Γ κ => κ.bk Γ
@[simp] def sCont : WS := fun Γ κ => κ.ct Γ
theorem ds_pass (hk : X.K = K := by rfl) : DS fr K X (.Pass pos) tNext sNext := ⟨hk, ps_pass, fun B HB F Γ σ H D κ j w k => k.nx F Γ σ H j w⟩
theorem ds_break (hk : X.K = K := by rfl) : DS fr K X (.Break pos) tBreak sBreak := ⟨hk, ps_break, fun B HB F Γ σ H D κ j w k => k.bk F Γ σ H j w⟩
theorem ds_cont (hk : X.K = K := by rfl) : DS fr K X (.Continue pos) tCont sCont := ⟨hk, ps_continue, fun B HB F Γ σ H D κ j w k => k.ct F Γ σ H j w⟩
/-- before a statement: a name's own object is frozen; a name is forgotten -/
@[simp] def sFrz (i : Nat) (f : WS) : WS := fun Γ κ => ∃ d, Γ[i]? = some (some (.own d)) ∧ f (Γ.set i (some (.val d))) κ
theorem ds_frz (i : Nat) (h : DSs fr K X rest t f) : DSs fr K X rest t (sFrz i f) := by
  refine ⟨h.k, h.p, fun B HB F Γ σ H D κ j w k => ?_⟩
  obtain ⟨d, e, w⟩ := w
  obtain ⟨F', j'⟩ := j.freeze e
  exact h.s B HB F' _ σ H D κ j' w k
@[simp] def sDrop (i : Nat) (f : WS) : WS := fun Γ κ => f (Γ.set i none) κ
theorem ds_drop (i : Nat) (h : DSs fr K X rest t f) : DSs fr K X rest t (sDrop i f) := by
  refine ⟨h.k, h.p, fun B HB F Γ σ H D κ j w k => ?_⟩
  exact h.s B HB F _ σ H D κ (j.drop (i := i)) w k
/-- x = e -/
@[simp] def sSet (i : Nat) (fe : WE) : WS := fun Γ κ => fe Γ fun d => κ.nx (Γ.set i (some (.val d)))
@[simp] def sOwn (i : Nat) (fe : WE) : WS := fun Γ κ => fe Γ fun d => κ.nx (Γ.set i (some (.own d)))
theorem set_sound {i : Nat} (he : SE K te fe) : SS fr K (tAsg te (gName i)) (sSet i fe) := fun B HB F Γ σ H D κ j w k =>
  he B HB F Γ σ H _ _ j w fun v d F' H' g r φ => k.nx F' _ _ H' ((j.grow g).set i r) φ
theorem own_sound {i : Nat} (he : SF K te fe) : SS fr K (tAsg te (gName i)) (sOwn i fe) := fun B HB F Γ σ H D κ j w k =>
  he B HB F Γ σ H _ _ j w fun p o d F' H' g n1 n2 eh r φ => k.nx F' _ _ H' ((j.grow g).setOwn i (j.gr.hh.free n2) n1 eh r fun kk d' e1 e2 => by
    obtain ⟨a, o', ea, _, _, q, _⟩ := j.sl kk _ e1
    rw [e2] at ea
    cases ea
    rw [n2] at q
    cases q) φ
theorem ds_set (i : Nat) {x : Str} {p' : Pos} (hN : X.N.Nodup) (he : DE K X e te fe) (hi : X.N[i]? = some x := by rfl) (hx : Loc X.env.scope x := by first | exact Or.inl rfl | exact Or.inr rfl) (hs : swapsWith e (some (.Name x p')) pos.line X.env = pure false := by rfl)
    (hf : X.fn x = true ∨ X.env.scope.names.lookup x = some .local := by first | exact .inl rfl | exact .inr rfl) : DS fr K X (.Assign [.Name x p'] e pos) (tAsg te (gName i)) (sSet i fe) := ⟨he.k, ps_set hN hi hx he.p hs hf, set_sound he.s⟩
theorem ds_own (i : Nat) {x : Str} {p' : Pos} (hN : X.N.Nodup) (he : DF K X e te fe) (hi : X.N[i]? = some x := by rfl) (hx : Loc X.env.scope x := by first | exact Or.inl rfl | exact Or.inr rfl) (hs : swapsWith e (some (.Name x p')) pos.line X.env = pure false := by rfl)
    (hf : X.fn x = true ∨ X.env.scope.names.lookup x = some .local := by first | exact .inl rfl | exact .inr rfl) : DS fr K X (.Assign [.Name x p'] e pos) (tAsg te (gName i)) (sOwn i fe) := ⟨he.k, ps_set hN hi hx he.p hs hf, own_sound he.s⟩
section
variable {elt tg iter : Expr} {ifs : List Expr} {scope : Scope} {own : List (Str × Nat)} {wi : TI} {gt : TG} {tel : TE} {fi : WA} {fg : WG} {fel : WE} {S : List Nat}
theorem lc_ps (i : Nat) {x : Str} {p' p2 : Pos} (hc : X.calm = true) (hN : X.N.Nodup) (hi : DI K X tg iter wi fi) (ok : BlkOk X.N X.env.scope scope own)
    (hg : ∀ (s : Shared) (H : Hp) (C : Addr) (cl : List (Str × Addr)) (fp : List Addr), DG K (X.blk s H scope (compEnvC scope cl C X.env) fp) tg S gt fg)
    (ht : ∀ (s : Shared) (H : Hp) (C : Addr) (cl : List (Str × Addr)) (fp : List Addr), DTs K (X.blk s H scope (compEnvC scope cl C X.env) fp) ifs tt ft)
    (he : ∀ (s : Shared) (H : Hp) (C : Addr) (cl : List (Str × Addr)) (fp : List Addr), DE K (X.blk s H scope (compEnvC scope cl C X.env) fp) elt tel fel)
    (hy : X.N[i]? = some x) (hyl : X.env.scope.names.lookup x = some .local) (hk : X.env.scope.kind = .function) (hl : (p'.line == p2.line) = true)
    (hn : (scope.names.any fun (n, k) => n == x && (k == .local || k == .cell)) = false) (hs : ∀ y, foldedSetIterable iter X.env y = pure y) :
    PS X (.Assign [.Name x p'] (.ListComp elt [⟨tg, iter, ifs, 0⟩] scope p2) pos) (tAsg (tLc wi gt tt tel (own.map (·.2))) (gName i)) :=
  ps_setLc hc hN hy hyl (sw_true hk hyl hl hn) hi.p ok (fun s H C cl fp => (hg s H C cl fp).p) (fun s H C cl fp => (ht s H C cl fp).p) (fun s H C cl fp => (he s H C cl fp).p) hs
theorem ds_setLc (i : Nat) {x : Str} {p' p2 : Pos} (hc : X.calm = true) (hN : X.N.Nodup) (hi : DI K X tg iter wi fi) (ok : BlkOk X.N X.env.scope scope own)
    (hg : ∀ (s : Shared) (H : Hp) (C : Addr) (cl : List (Str × Addr)) (fp : List Addr), DG K (X.blk s H scope (compEnvC scope cl C X.env) fp) tg S gt fg)
    (ht : ∀ (s : Shared) (H : Hp) (C : Addr) (cl : List (Str × Addr)) (fp : List Addr), DTs K (X.blk s H scope (compEnvC scope cl C X.env) fp) ifs tt ft)
    (he : ∀ (s : Shared) (H : Hp) (C : Addr) (cl : List (Str × Addr)) (fp : List Addr), DE K (X.blk s H scope (compEnvC scope cl C X.env) fp) elt tel fel)
    (hy : X.N[i]? = some x := by rfl) (hyl : X.env.scope.names.lookup x = some .local := by rfl) (hk : X.env.scope.kind = .function := by rfl) (hl : (p'.line == p2.line) = true := by rfl)
    (hn : (scope.names.any fun (n, k) => n == x && (k == .local || k == .cell)) = false := by decide +kernel) (hS : ∀ i ∈ S, i ∈ own.map (·.2) := by decide) (hs : ∀ y, foldedSetIterable iter X.env y = pure y := by intro _; rfl) :
    DS fr K X (.Assign [.Name x p'] (.ListComp elt [⟨tg, iter, ifs, 0⟩] scope p2) pos) (tAsg (tLc wi gt tt tel (own.map (·.2))) (gName i)) (sSet i (wLc fi fg ft fel (own.map (·.2)))) :=
  ⟨hi.k, lc_ps i hc hN hi ok hg ht he hy hyl hk hl hn hs, set_sound (DF.toE (X := X) ⟨hi.k, (df_lc (pos := p2) hc hN hi ok hg ht he hS hs).p, (df_lc (pos := p2) hc hN hi ok hg ht he hS hs).s⟩).s⟩
theorem ds_ownLc (i : Nat) {x : Str} {p' p2 : Pos} (hc : X.calm = true) (hN : X.N.Nodup) (hi : DI K X tg iter wi fi) (ok : BlkOk X.N X.env.scope scope own)
    (hg : ∀ (s : Shared) (H : Hp) (C : Addr) (cl : List (Str × Addr)) (fp : List Addr), DG K (X.blk s H scope (compEnvC scope cl C X.env) fp) tg S gt fg)
    (ht : ∀ (s : Shared) (H : Hp) (C : Addr) (cl : List (Str × Addr)) (fp : List Addr), DTs K (X.blk s H scope (compEnvC scope cl C X.env) fp) ifs tt ft)
    (he : ∀ (s : Shared) (H : Hp) (C : Addr) (cl : List (Str × Addr)) (fp : List Addr), DE K (X.blk s H scope (compEnvC scope cl C X.env) fp) elt tel fel)
    (hy : X.N[i]? = some x := by rfl) (hyl : X.env.scope.names.lookup x = some .local := by rfl) (hk : X.env.scope.kind = .function := by rfl) (hl : (p'.line == p2.line) = true := by rfl)
    (hn : (scope.names.any fun (n, k) => n == x && (k == .local || k == .cell)) = false := by decide +kernel) (hS : ∀ i ∈ S, i ∈ own.map (·.2) := by decide) (hs : ∀ y, foldedSetIterable iter X.env y = pure y := by intro _; rfl) :
    DS fr K X (.Assign [.Name x p'] (.ListComp elt [⟨tg, iter, ifs, 0⟩] scope p2) pos) (tAsg (tLc wi gt tt tel (own.map (·.2))) (gName i)) (sOwn i (wLc fi fg ft fel (own.map (·.2)))) :=
  ⟨hi.k, lc_ps i hc hN hi ok hg ht he hy hyl hk hl hn hs, own_sound (df_lc (pos := p2) hc hN hi ok hg ht he hS hs).s⟩
end
/-- targets = e -/
@[simp] def sAsg (fe : WE) (g : WG) : WS := fun Γ κ => fe Γ fun d => g d Γ κ.nx
theorem ds_asg {tg : Expr} {S : List Nat} {gt : TG} {fg : WG} (he : DE K X e te fe) (hg : DG K X tg S gt fg) (hs : swapsWithSole [tg] e pos.line X.env = pure false := by rfl) (hw : swappedStores [tg] e X.env = pure none := by rfl)
    (h1 : (assignEach [tg] X.env).map (·.2) = [assign tg X.env] := by rfl) : DS fr K X (.Assign [tg] e pos) (tAsg te gt) (sAsg fe fg) :=
  ⟨he.k, ps_asg he.p hg.p hs hw h1, fun B HB F Γ σ H D κ j w k => he.s B HB F Γ σ H _ _ j w fun v d F' H' g r φ => hg.s B HB F' Γ σ H' v d _ _ (j.grow g) r φ fun Γ' σ' j' _ φ' => k.nx F' Γ' σ' H' j' φ'⟩
/-- a, b = e1, e2 -/
@[simp] def sPar (i l : Nat) (h : WA) : WS := fun Γ κ => h Γ fun ds => match ds with
  | [d, e] => κ.nx ((Γ.set i (some (.val d))).set l (some (.val e)))
  | _ => False
theorem ds_par (i l : Nat) {x y : Str} {a b : Expr} {ta : TA} {h : WA} {px py pt : Pos} {kt k2 pt2} (hc : X.calm = true) (hN : X.N.Nodup) (ha : DA K X [a, b] ta h) (hi : X.N[i]? = some x := by rfl) (hl : X.N[l]? = some y := by rfl) (hil : i ≠ l := by decide)
    (hx : X.env.scope.names.lookup x = some .local := by rfl) (hy : X.env.scope.names.lookup y = some .local := by rfl)
    (hw : swappedStores [.Tuple [.Name x px, .Name y py] kt pt] (.Tuple [a, b] k2 pt2) X.env = pure (some [x, y]) := by rfl)
    (hs : swapsWithSole [.Tuple [.Name x px, .Name y py] kt pt] (.Tuple [a, b] k2 pt2) pos.line X.env = pure false := by rfl) :
    DS fr K X (.Assign [.Tuple [.Name x px, .Name y py] kt pt] (.Tuple [a, b] k2 pt2) pos) (tPar i l ta) (sPar i l h) := by
  refine ⟨ha.k, ps_par hc hN hi hl hil hx hy ha.p hw hs, fun B HB F Γ σ H D κ j w k => ha.s B HB F Γ σ H _ _ j w fun vs ds F' H' g r φ => ?_⟩
  match ds, φ with
  | [d, e], φ =>
    cases r with
    | cons r1 r2 =>
      cases r2 with
      | cons r2 r3 =>
        cases r3
        exact ⟨_, _, rfl, k.nx F' _ _ H' (((j.grow g).set i r1).set l r2) φ⟩
/-- x op= e -/
@[simp] def sAug (i : Nat) (w : W2) (fe : WE) : WS := fun Γ κ => ∃ d, Γ[i]? = some (some (.val d)) ∧ fe Γ fun e => w d e fun z => κ.nx (Γ.set i (some (.val z)))
theorem ds_aug (i : Nat) {x : Str} {op : Operator} {r : R2} {w : W2} {p' : Pos} (hN : X.N.Nodup) (ho : X.K = K → OpR X (inplaceOp op) r) (hd : DOp2 K r w) (he : DB K X e te fe) (hi : X.N[i]? = some x := by rfl) (hx : Loc X.env.scope x := by first | exact Or.inl rfl | exact Or.inr rfl)
    (hf : X.fn x = true ∨ X.env.scope.names.lookup x = some .local := by first | exact .inl rfl | exact .inr rfl) : DS fr K X (.AugAssign (.Name x p') op e pos) (tAug i te r) (sAug i w fe) := by
  refine ⟨he.k, ps_aug hN hi hx he.p (ho he.k) hf, fun B HB F Γ σ H D κ j w k => ?_⟩
  obtain ⟨d, e1, w⟩ := w
  obtain ⟨v, ev, rv⟩ := j.sl i _ e1
  refine ⟨v, ev, he.s B HB F Γ σ H _ _ j w fun y e F' H' g r φ => ?_⟩
  have j' := j.grow g
  exact hd F' H' v y d e _ _ j'.fh (.inl (rv.mono g.ff)) r φ fun u z F2 H2 g2 r2 φ2 => k.nx F2 _ _ H2 ((j'.grow g2).set i r2) φ2
/-- an expression whose value is dropped -/
@[simp] def sExpr (fe : WE) : WS := fun Γ κ => fe Γ fun _ => κ.nx Γ
theorem ds_expr (he : DE K X e te fe) (hs : swapsWith e none pos.line X.env = pure false := by rfl) : DS fr K X (.Expr e pos) (tDrop te) (sExpr fe) :=
  ⟨he.k, ps_expr he.p hs, fun B HB F Γ σ H D κ j w k => he.s B HB F Γ σ H _ _ j w fun v d F' H' g r φ => k.nx F' Γ σ H' (j.grow g) φ⟩
/-- return -/
@[simp] def sRet (fe : WE) : WS := fun Γ κ => fe Γ κ.rt
theorem ds_ret (he : DE K X e te fe) : DS false K X (.Return (some e) pos) (tRet te) (sRet fe) :=
  ⟨he.k, ps_ret he.p, fun B HB F Γ σ H D κ j w k => he.s B HB F Γ σ H _ _ j w fun v d F' H' g r φ => k.rt v d F' H' (j.grow g).gr r φ⟩
theorem ds_retN (hk : X.K = K := by rfl) : DS false K X (.Return none pos) tRetN (fun _ κ => κ.rt .non) :=
  ⟨hk, ps_retN, fun B HB F Γ σ H D κ j w k => k.rt .non .non F H j.gr .non w⟩
/-- return of a name -/
@[simp] def sRetV (i : Nat) : WS := fun Γ κ => (∃ d, Γ[i]? = some (some (.val d)) ∧ κ.rt d) ∨ ∃ d, Γ[i]? = some (some (.own d)) ∧ κ.rt d
theorem ds_retV (i : Nat) {x : Str} {p' : Pos} (hk : X.K = K := by rfl) (hN : X.N[i]? = some x := by rfl) (hv : Vis X.env.scope x := by first | exact Or.inl rfl | exact Or.inr (Or.inl rfl) | exact Or.inr (Or.inr rfl)) (hd : (x == ("__debug__" : Str)) = false := by decide)
    (hcd : (x == ("__classdict__" : Str)) = false := by decide) : DS false K X (.Return (some (.Name x p')) pos) (tRet (tVar i)) (sRetV i) := by
  refine ⟨hk, ps_ret (pe_var hN hv hd hcd), fun B HB F Γ σ H D κ j w k => ?_⟩
  rcases w with ⟨d, e, w⟩ | ⟨d, e, w⟩
  · obtain ⟨v, ev, r⟩ := j.sl i _ e
    exact ⟨v, ev, k.rt v d F H j.gr r w⟩
  · obtain ⟨F', j'⟩ := j.freeze e
    have hi : i < Γ.length := (List.getElem?_eq_some_iff.mp e).1
    obtain ⟨v, ev, r⟩ := j'.sl i (.val d) (by rw [List.getElem?_set_self hi])
    exact ⟨v, ev, k.rt v d F' H j'.gr r w⟩
@[simp] def sRetO (i : Nat) : WS := fun Γ κ => ∃ d, Γ[i]? = some (some (.own d)) ∧ κ.rt d
theorem ds_retO (i : Nat) {x : Str} {p' : Pos} (hk : X.K = K := by rfl) (hN : X.N[i]? = some x := by rfl) (hv : Vis X.env.scope x := by first | exact Or.inl rfl | exact Or.inr (Or.inl rfl) | exact Or.inr (Or.inr rfl)) (hd : (x == ("__debug__" : Str)) = false := by decide)
    (hcd : (x == ("__classdict__" : Str)) = false := by decide) : DS true K X (.Return (some (.Name x p')) pos) (tRet (tVar i)) (sRetO i) := by
  refine ⟨hk, ps_ret (pe_var hN hv hd hcd), fun B HB F Γ σ H D κ j w k => ?_⟩
  obtain ⟨d, e, w⟩ := w
  obtain ⟨a, o, ev, n1, n2, q, r⟩ := j.sl i _ e
  exact ⟨_, ev, k.rt _ d F H j.gr ⟨a, o, rfl, n1, n2, q, r⟩ w⟩
theorem ds_retF (he : DF K X e te fe) : DS true K X (.Return (some e) pos) (tRet te) (sRet fe) :=
  ⟨he.k, ps_ret he.p, fun B HB F Γ σ H D κ j w k => he.s B HB F Γ σ H _ _ j w fun p o d F' H' g n1 n2 eh r φ => k.rt _ d F' H' (j.grow g).gr (by show RepR true _ _ _ _ _ _; exact ⟨p, o, rfl, j.gr.hh.free n2, n1, eh, r⟩) φ⟩
/-- if -/
@[simp] def sIf (c : WT) (f g : WS) : WS := fun Γ κ => c Γ fun b => if b = true then f Γ κ else g Γ κ
theorem ds_if {c : Expr} (hc : DT K X c tt ft) (ha : DSs fr K X a t f) (hb : DSs fr K X b u g) : DS fr K X (.If c a b pos) (tIfS tt t u) (sIf ft f g) := by
  refine ⟨hc.k, ps_if hc.p ha.p hb.p, fun B HB F Γ σ H D κ j w k => hc.s B HB F Γ σ H _ _ j w fun c F' H' g φ => ?_⟩
  cases c with
  | true => exact ha.s B HB F' Γ σ H' D κ (j.grow g) φ k
  | false => exact hb.s B HB F' Γ σ H' D κ (j.grow g) φ k
/-- for -/
def forGo (g : WG) (f : WS) (κ : DK) : List D → GE → Prop
  | [], Γ => κ.nx Γ
  | d :: ds, Γ => g d Γ fun Γ1 => f Γ1 { κ with nx := forGo g f κ ds, ct := forGo g f κ ds, bk := κ.nx }
@[simp] def sFor (fi : WA) (g : WG) (f : WS) : WS := fun Γ κ => fi Γ fun ds => forGo g f κ ds Γ
theorem KOk.base {B HB B' H1 : Hp} {κ : DK} {D : Ends} (k : KOk fr K B HB κ D) (g : Grow B HB B' H1) : KOk fr K B' HB κ D :=
  ⟨fun F Γ σ H j => k.nx F Γ σ H (j.unbase g), fun v d F H gg => k.rt v d F H (g.base gg), fun F Γ σ H j => k.bk F Γ σ H (j.unbase g), fun F Γ σ H j => k.ct F Γ σ H (j.unbase g)⟩
theorem ds_for {tg iter : Expr} {S : List Nat} {wi : TI} {gt : TG} {fi : WA} {fg : WG} (hp : PassesOwn (model X.prog X.w) X.A X.env X.xe) (hc : X.calm = true) (hi : DI K X tg iter wi fi) (hg : DG K X tg S gt fg) (hb : DSs fr K X a t f)
    (hs : ∀ x, foldedSetIterable iter X.env x = pure x := by intro _; rfl) : DS fr K X (.For tg iter a [] pos) (tFor wi gt t) (sFor fi fg f) := by
  refine ⟨hi.k, ps_for hp hc hi.p hg.p hb.p hs, fun B HB F Γ σ H D κ j w k => hi.s B HB F Γ σ H _ _ j w fun Jt ds F1 H1 g1 wk φ => ?_⟩
  have j1 := j.grow g1
  have kb := k.base j1.gr
  refine ⟨fun i m σ H => ∃ F2 Γ2, m = ds.length - i ∧ i ≤ ds.length ∧ J K F1 HB F2 Γ2 σ H ∧ forGo fg f κ (ds.drop i) Γ2, ⟨ds.length, F1, Γ, rfl, Nat.zero_le _, j1.rebase, φ⟩, ?_⟩
  rintro i m σ2 H2 ⟨F2, Γ2, rfl, hi2, j2, w2⟩
  by_cases hlt : i < ds.length
  · refine .inr ⟨wk.go i H2 (j2.gr.ff.trans j2.fh) hlt, fun σ' H' => ∃ F3 Γ3, J K F1 HB F3 Γ3 σ' H' ∧ forGo fg f κ (ds.drop (i + 1)) Γ3, fun σ' H' ⟨F3, Γ3, z1, z2⟩ => ⟨ds.length - (i + 1), by omega, F3, Γ3, rfl, hlt, z1, z2⟩, fun x H' y => ?_⟩
    obtain ⟨d, F3, ed, g3, r3⟩ := wk.yld i F2 H2 x H' j2.gr.ff j2.fh hlt y
    have edrop : ds.drop i = d :: ds.drop (i + 1) := by
      obtain ⟨h1, h2⟩ := List.getElem?_eq_some_iff.mp ed
      rw [← h2]; exact List.drop_eq_getElem_cons h1
    rw [edrop] at w2
    refine hg.s F1 HB F3 Γ2 σ2 H' x d _ _ (j2.grow g3) r3 w2 fun Γ4 σ4 j4 _ w4 => ?_
    exact hb.s F1 HB F3 Γ4 σ4 H' _ _ j4 w4 ⟨fun F Γ σ H j w => ⟨F, Γ, j, w⟩, kb.rt, kb.nx, fun F Γ σ H j w => ⟨F, Γ, j, w⟩⟩
  · have e : i = ds.length := by omega
    subst e
    rw [List.drop_length] at w2
    exact .inl ⟨wk.stop _ H2 (j2.gr.ff.trans j2.fh) (Nat.le_refl _), kb.nx F2 Γ2 σ2 H2 j2 w2⟩
/-- while -/
def whGo (c : WT) (f : WS) (κ : DK) : Nat → GE → Prop
  | 0, _ => False
  | n + 1, Γ => c Γ fun b => if b = true then f Γ { κ with nx := whGo c f κ n, ct := whGo c f κ n, bk := κ.nx } else κ.nx Γ
def sWhile (c : WT) (f : WS) : WS := fun Γ κ => ∃ n, whGo c f κ n Γ
theorem ds_while {c : Expr} (hp : PassesOwn (model X.prog X.w) X.A X.env X.xe) (hc : DT K X c tt ft) (hb : DSs fr K X a t f) : DS fr K X (.While c a [] pos) (tWhile tt t) (sWhile ft f) := by
  refine ⟨hc.k, ps_while hp hc.p hb.p, fun B HB F Γ σ H D κ j w k => ?_⟩
  obtain ⟨n, w⟩ := w
  refine ⟨fun m σ H => ∃ F Γ, J K B HB F Γ σ H ∧ whGo ft f κ m Γ, ⟨n, F, Γ, j, w⟩, ?_⟩
  rintro m σ2 H2 ⟨F2, Γ2, j2, w2⟩
  cases m with
  | zero => exact w2.elim
  | succ m =>
    refine hc.s B HB F2 Γ2 σ2 H2 _ _ j2 w2 fun b F3 H3 g3 w3 => ?_
    cases b with
    | false => exact k.nx F3 Γ2 σ2 H3 (j2.grow g3) w3
    | true =>
      refine ⟨fun σ' H' => ∃ F Γ, J K B HB F Γ σ' H' ∧ whGo ft f κ m Γ, fun σ' H' z => ⟨m, Nat.lt_succ_self _, z⟩, ?_⟩
      exact hb.s B HB F3 Γ2 σ2 H3 _ _ (j2.grow g3) w3 ⟨fun F Γ σ H j w => ⟨F, Γ, j, w⟩, k.rt, k.nx, fun F Γ σ H j w => ⟨F, Γ, j, w⟩⟩
/-- xs[e] = v, xs a name's own list -/
@[simp] def sPut (i : Nat) (fb fe : WE) : WS := fun Γ κ => ∃ xs, Γ[i]? = some (some (.own (.lst xs))) ∧ fe Γ fun z => fb Γ fun kd => ∃ kk jj, kd = .int kk ∧ ixN xs.length kk = some jj ∧ κ.nx (Γ.set i (some (.own (.lst (xs.set jj z)))))
theorem ownL {B HB F H : Hp} {Γ : GE} {σ : L2.St} {i : Nat} {xs : List D} (j : J K B HB F Γ σ H) (e : Γ[i]? = some (some (.own (.lst xs)))) : ∃ a vs, σ[i]? = some (some (.ref a)) ∧ HB a = none ∧ F a = none ∧ H a = some (.lst vs) ∧ RepL K F vs xs := by
  obtain ⟨a, o, ea, n1, n2, q, r⟩ := j.sl i _ e
  cases r with
  | lst r => exact ⟨a, _, ea, n1, n2, q, r⟩
theorem ds_put (i : Nat) {x : Str} {p1 p2 : Pos} {ei : Expr} {ti : TE} (hv : DE K X e te fe) (hi : DE K X ei ti fb) (hN : X.N[i]? = some x := by rfl) (hvis : Vis X.env.scope x := by first | exact Or.inl rfl | exact Or.inr (Or.inl rfl) | exact Or.inr (Or.inr rfl)) (hd : (x == ("__debug__" : Str)) = false := by decide)
    (hcd : (x == ("__classdict__" : Str)) = false := by decide) (hs : swapsWithSole [.Subscript (.Name x p1) ei p2] e pos.line X.env = pure false := by rfl) (hw : swappedStores [.Subscript (.Name x p1) ei p2] e X.env = pure none := by rfl)
    (h1 : (assignEach [.Subscript (.Name x p1) ei p2] X.env).map (·.2) = [assign (.Subscript (.Name x p1) ei p2) X.env] := by rfl)
    (ha : ∀ v, assign (.Subscript (.Name x p1) ei p2) X.env v = (do
      let ov ← holding [v] (eval (.Name x p1) X.env)
      let iv ← holding [v, ov] (eval ei X.env)
      standAt p2
      holding [v, ov, iv] (setItem ov iv v)
      release [v, ov, iv] []) := by intro _; rfl) :
    DS fr K X (.Assign [.Subscript (.Name x p1) ei p2] e pos) (tAsg te (gSub (tVar i) ti rSetL)) (sPut i fb fe) := by
  refine ⟨hv.k, ps_asg hv.p (pg_sub (pe_var hN hvis hd hcd) hi.p set_list ha) hs hw h1, fun B HB F Γ σ H D κ j w k => ?_⟩
  obtain ⟨xs, e1, w⟩ := w
  obtain ⟨a, vs, ea, m1, m2, q, r⟩ := ownL j e1
  refine hv.s B HB F Γ σ H _ _ j w fun z zd F1 H1 g1 r1 w1 => ?_
  refine ⟨_, ea, hi.s B HB F1 Γ σ H1 _ _ (j.grow g1) w1 fun kv kd F2 H2 g2 r2 w2 => ?_⟩
  obtain ⟨kk, jj, rfl, hj, w2⟩ := w2
  rw [r2.int_inv]
  have j2 := (j.grow g1).grow g2
  obtain ⟨a', vs', ea', _, _, q2, rl⟩ := ownL j2 e1
  rw [ea] at ea'
  cases ea'
  refine ⟨a, vs', kk, jj, rfl, rfl, q2, by rw [rl.length]; exact hj, ?_⟩
  exact k.nx F2 _ σ _ (j2.write e1 ea (.lst (rl.set (r1.mono g2.ff) jj))) w2
/-- xs.append(v) -/
@[simp] def sApp (i : Nat) (fe : WE) : WS := fun Γ κ => ∃ xs, Γ[i]? = some (some (.own (.lst xs))) ∧ fe Γ fun z => xs.length < sizeLine ∧ κ.nx (Γ.set i (some (.own (.lst (xs ++ [z])))))
theorem app_sound {i : Nat} (he : SE K te fe) : SS fr K (tDrop (tBM K "list" rAppend (tVar i) (tCons te tNil))) (sApp i fe) := by
  intro B HB F Γ σ H D κ j w k
  obtain ⟨xs, e1, w⟩ := w
  obtain ⟨a, vs, ea, m1, m2, q, r⟩ := ownL j e1
  refine ⟨_, ea, .inl ⟨rfl, _, .of q⟩, he B HB F Γ σ H _ _ j w fun z zd F1 H1 g1 r1 w1 => ?_⟩
  have j1 := j.grow g1
  obtain ⟨a', vs', ea', _, _, q2, rl⟩ := ownL j1 e1
  rw [ea] at ea'
  cases ea'
  refine ⟨a, vs', z, rfl, rfl, q2, by rw [rl.length]; exact w1.1, ?_⟩
  exact k.nx F1 _ σ _ (j1.write e1 ea (.lst (rl.append (.cons r1 .nil)))) w1.2
/-! ### calls of defs -/
def spD (fr : Bool) (K : Fr) (S : List D → D → Prop) : Sp := fun vs H Q _ => ∃ F ds d, Same F H ∧ RepL K F vs ds ∧ S ds d ∧ ∀ v F' H', Grow F H F' H' → RepR fr K F' H' H v d → Q v H'
@[simp] def wFn (S : List D → D → Prop) (h : WA) : WE := fun Γ Φ => h Γ fun ds => ∃ d, S ds d ∧ Φ d
def scalD : D → Prop
  | .non => True | .bl _ => True | .int _ => True | .str _ => True
  | _ => False
@[simp] def wFnS (S : List D → D → Prop) (h : WA) : WE := fun Γ Φ => h Γ fun ds => ∃ d, S ds d ∧ scalD d ∧ Φ d
theorem Rep.scal {K : Fr} {F F' : Hp} {v : V} {d : D} (r : Rep K F v d) (h : scalD d) : Rep K F' v d := by
  cases d with
  | non => rw [r.non_inv]; exact .non
  | bl b => rw [r.bl_inv]; exact .bl b
  | int b => rw [r.int_inv]; exact .int b
  | str b => rw [r.str_inv]; exact .str b
  | _ => exact h.elim
section
variable {es : List Expr} {th : TA} {h : WA} {k : Nat} {fa : Addr} {fd : FuncData} {ps : List Str} {S : List D → D → Prop} {x : Str} {p : Pos}
theorem de_call (Fo : FnOk X.prog X.w K X.mg X.base CX0 k fa fd ps (spD false K S)) (hr : Room k X.A) (hm : X.mg x = some (.ref fa)) (hk : PySem.W.keepIn K (.ref fa) = true) (hb : Binds K fd ps [])
    (ha : DA K X (e :: es) th h) (hg : Gl X x := by rfl) (hdb : (x == ("__debug__" : Str)) = false := by decide) (he : starEach (e :: es) X.env = (false, eval e X.env) :: starEach es X.env := by rfl) (hpl : (backTo pos (starEach es X.env)).any (·.1) = false := by rfl) :
    DE K X (.Call (.Name x p) (e :: es) [] pos) (tCall (spD false K S) [] E0 th) (wFn S h) := by
  obtain rfl := ha.k
  refine ⟨rfl, pe_call Fo hr hg hm hk hb .nil pass0 ha.p hdb he hpl, fun B HB F Γ σ H Q Φ j w k => ha.s B HB F Γ σ H _ _ j w fun vs ds F' H' g r φ => ?_⟩
  obtain ⟨d, hS, φ⟩ := φ
  exact ⟨F', ds, d, g.fh, by simpa using r, hS, fun v F2 H2 g2 r2 => k v d F2 H2 (g.trans g2) r2 φ⟩
theorem de_callS (Fo : FnOk X.prog X.w K X.mg X.base CX0 k fa fd ps (spD false K S)) (hr : Room k X.A) (hm : X.mg x = some (.ref fa)) (hk : PySem.W.keepIn K (.ref fa) = true) (hb : Binds K fd ps [])
    (ha : DAB K X (e :: es) th h) (hg : Gl X x := by rfl) (hdb : (x == ("__debug__" : Str)) = false := by decide) (he : starEach (e :: es) X.env = (false, eval e X.env) :: starEach es X.env := by rfl) (hpl : (backTo pos (starEach es X.env)).any (·.1) = false := by rfl) :
    DE K X (.Call (.Name x p) (e :: es) [] pos) (tCall (spD false K S) [] E0 th) (wFnS S h) := by
  obtain rfl := ha.k
  refine ⟨rfl, pe_call Fo hr hg hm hk hb .nil pass0 ha.p hdb he hpl, fun B HB F Γ σ H Q Φ j w k => ha.s B HB F Γ σ H _ _ j w fun vs ds F' H' g r φ => ?_⟩
  obtain ⟨d, hS, hsc, φ⟩ := φ
  refine ⟨H', ds, d, Same.refl _, by simpa using r.repH g.fh, hS, fun v F2 H2 g2 r2 => ?_⟩
  exact k v d F' H2 ⟨g.ff, g.hh.trans g2.hh, g.fh.trans g2.hh, g.ow⟩ (Rep.scal r2 hsc) φ
theorem df_call (Fo : FnOk X.prog X.w K X.mg X.base CX0 k fa fd ps (spD true K S)) (hr : Room k X.A) (hm : X.mg x = some (.ref fa)) (hk : PySem.W.keepIn K (.ref fa) = true) (hb : Binds K fd ps [])
    (ha : DA K X (e :: es) th h) (hg : Gl X x := by rfl) (hdb : (x == ("__debug__" : Str)) = false := by decide) (he : starEach (e :: es) X.env = (false, eval e X.env) :: starEach es X.env := by rfl) (hpl : (backTo pos (starEach es X.env)).any (·.1) = false := by rfl) :
    DF K X (.Call (.Name x p) (e :: es) [] pos) (tCall (spD true K S) [] E0 th) (wFn S h) := by
  obtain rfl := ha.k
  refine ⟨rfl, pe_call Fo hr hg hm hk hb .nil pass0 ha.p hdb he hpl, fun B HB F Γ σ H Q Φ j w k => ha.s B HB F Γ σ H _ _ j w fun vs ds F' H' g r φ => ?_⟩
  obtain ⟨d, hS, φ⟩ := φ
  refine ⟨F', ds, d, g.fh, by simpa using r, hS, fun v F2 H2 g2 r2 => ?_⟩
  obtain ⟨p, o, rfl, n1, n2, eh, r2⟩ := r2
  exact k p o d F2 H2 (g.trans g2) n2 (g.hh.free n1) eh r2 φ
end
end

/-! ### a def by its body -/
def startG (n : Nat) (ds : List D) : GE := ds.map (fun d => some (.val d)) ++ List.replicate (n - ds.length) none
theorem startG_get {K : Fr} {F : Hp} : ∀ {vs : List V} {ds : List D} {n m : Nat} {i : Nat} {s : Sl}, RepL K F vs ds → (ds.map (fun d => some (Sl.val d)) ++ List.replicate n none)[i]? = some (some s) →
    ∃ v d, s = .val d ∧ (vs.map some ++ List.replicate m none)[i]? = some (some v) ∧ Rep K F v d
  | _, _, n, m, i, s, .nil, h => by
    simp only [List.map_nil, List.nil_append] at h
    rw [List.getElem?_replicate] at h
    split at h <;> cases h
  | _, _, n, m, 0, s, .cons a b, h => by
    simp at h
    exact ⟨_, _, h.symm, by simp, a⟩
  | _, _, n, m, i + 1, s, .cons a b, h => by
    obtain ⟨v, d, h1, h2, h3⟩ := startG_get (n := n) (m := m) (i := i) b (by simpa using h)
    exact ⟨v, d, h1, by simpa using h2, h3⟩
theorem J.start {K : Fr} {F H : Hp} {N : List Str} {vs : List V} {ds : List D} (s : Same F H) (r : RepL K F vs ds) : J K F H F (startG N.length ds) (L2.start N vs) H := by
  have hval : ∀ (i : Nat) (s : Sl), (startG N.length ds)[i]? = some (some s) → ∃ v d, s = .val d ∧ (L2.start N vs)[i]? = some (some v) ∧ Rep K F v d := fun i s e => startG_get r e
  refine ⟨.refl s, ?_, fun i s e => ?_, fun i j d d' a _ e1 => ?_⟩
  · unfold startG L2.start
    rw [List.length_append, List.length_append, List.length_map, List.length_map, List.length_replicate, List.length_replicate, r.length]
  · obtain ⟨v, d, rfl, h2, h3⟩ := hval i s e
    exact ⟨v, h2, h3⟩
  · obtain ⟨v, d, h, _⟩ := hval i _ e1
    cases h
section
variable {P : Program} {w : World} {K : Fr} {mg : Str → Option Value} {base : Heap}
theorem fnD {x qual : Str} {st : Stmt} {fa : Addr} {fd : FuncData} {N ps : List Str} {k : Nat} {fr : Bool} {S : List D → D → Prop} {f : WS} (Fn : Fun K x qual st fa fd) (sc : FnScope N ps (defScope st)) (hl : ∀ ds d, S ds d → ds.length = ps.length)
    (hf : ∀ ds d, S ds d → f (startG N.length ds) { nx := fun _ => fr = false ∧ d = .non, rt := fun z => z = d })
    (body : ∀ (cdv : Value) (A : Around) (outer : List PySem.Env) (s : Shared) (H : Hp) (E : XK), Room k (A.deeper (envOfC qual (defScope st) s.heap.objs.size fa cdv)) →
      ∃ t, DSs fr K (cxOf CX0 P w K mg base N qual (defScope st) fa cdv A outer s H E).nox (defBody st) t f) : FnOk P w K mg base CX0 (k + 1) fa fd ps (spD fr K S) := by
  refine Fn.ok sc (fun vs H Q E h => ?_) fun cdv A outer s H vs Q E hr h => ?_
  · obtain ⟨F, ds, d, _, r, hS, _⟩ := h
    rw [r.length]; exact hl ds d hS
  · obtain ⟨F, ds, d, sm, r, hS, q⟩ := h
    obtain ⟨t, b⟩ := body cdv A outer s H E hr
    refine ⟨t, b.p, b.s F H F _ _ H _ _ (J.start sm r) (hf ds d hS) ⟨fun F' Γ σ H' j z => ?_, fun v z F' H' g rr e => ?_, fun _ _ _ _ _ z => z.elim, fun _ _ _ _ _ z => z.elim⟩⟩
    · obtain ⟨e1, e2⟩ := z
      subst e1 e2
      exact q .non F' H' j.gr .non
    · subst e
      exact q v F' H' g rr
end
end DL

set_option Elab.async false
set_option linter.all false
set_option maxRecDepth 100000
set_option maxHeartbeats 4000000
namespace DL
open PySem PySem.Spec PyProof.Rows L2

section
variable {K : Fr} {F H : Hp}
/-- scalar answers -/
theorem k_same {Q : VK} {Φ : D → Prop} {v : V} {z : D} (s : Same F H) (k : ∀ v z F' H', Grow F H F' H' → Rep K F' v z → Φ z → Q v H') (r : Rep K F v z) (φ : Φ z) : Q v H := k v z F H (.refl s) r φ
theorem k_new {Q : VK} {Φ : D → Prop} {o : HO} {z : D} (s : Same F H) (k : ∀ v z F' H', Grow F H F' H' → Rep K F' v z → Φ z → Q v H') (r : RepO K F o z) (φ : Φ z) : ∀ p, H p = none → Q (.ref p) (upd H p o) := fun p n => by
  have g := Grow.new (p := p) (o := o) s n
  exact k _ z _ _ g (.ob upd_same (r.mono g.ff)) φ
theorem k_newF {Q : VK} {Φ : D → Prop} {o : HO} {z : D} (s : Same F H) (k : ∀ p o z F' H', Grow F H F' H' → F' p = none → H p = none → H' p = some o → RepW K F' o z → Φ z → Q (.ref p) H') (r : RepW K F o z) (φ : Φ z) : ∀ p, H p = none → Q (.ref p) (upd H p o) :=
  fun p n => k p o z F _ (.newH s n) (s.free n) n upd_same r φ
end

/-! ### + -/
@[simp] def wAdd : W2
  | .int i, .int j, Φ => Φ (.int (i + j))
  | .int i, .bl b, Φ => Φ (.int (i + b2i b))
  | .lst xs, .lst ys, Φ => xs.length + ys.length ≤ sizeLine ∧ Φ (.lst (xs ++ ys))
  | .tup xs, .tup ys, Φ => xs.length + ys.length ≤ sizeLine ∧ Φ (.tup (xs ++ ys))
  | .str x, .str y, Φ => x.length + y.length ≤ sizeLine ∧ Φ (.str (x ++ y))
  | _, _, _ => False
def rAddA (K : Fr) : R2 := fun x y H Q => rI0 (fun i j => .int (i + j)) x y H Q ∨ rCat x y H Q ∨ rCatA K x y H Q ∨ (∃ i j, x = .str i ∧ y = .str j ∧ i.length + j.length ≤ sizeLine ∧ Q (.str (i ++ j)) H) ∨ (∃ i k, x = .int i ∧ y = .bl k ∧ Q (.int (i + b2i k)) H)
theorem o_add {K : Fr} {X : Cx} (hk : X.K = K) : OpR X (binaryOp .Add) (rAddA K) := by
  cases hk
  exact op_add.or (op_cat.or (op_catA.or (op_add_str.or op_add_ib)))
theorem d_add {K : Fr} : DOp2 K (rAddA K) wAdd := by
  intro F H x y d e Q Φ s rx ry w k
  cases d with
  | int i =>
    cases e with
    | int j => rw [rx.int, ry.int]; exact .inl ⟨i, j, rfl, rfl, k_same s k (.int _) w⟩
    | bl b => rw [rx.int, ry.bl]; exact .inr (.inr (.inr (.inr ⟨i, b, rfl, rfl, k_same s k (.int _) w⟩)))
    | _ => exact w.elim
  | lst xs =>
    cases e with
    | lst ys =>
      obtain ⟨a, vs, rfl, ea, ra⟩ := rx.lst s
      obtain ⟨b, ws, rfl, eb, rb⟩ := ry.lst s
      exact .inr (.inl ⟨a, b, vs, ws, rfl, rfl, ea, eb, by rw [ra.length, rb.length]; exact w.1, k_new s k (.lst (ra.append rb)) w.2⟩)
    | _ => exact w.elim
  | tup xs =>
    cases e with
    | tup ys =>
      obtain ⟨a, vs, rfl, ea, ra⟩ := rx.tup s
      obtain ⟨b, ws, rfl, eb, rb⟩ := ry.tup s
      refine .inr (.inr (.inl ⟨a, b, vs, ws, rfl, rfl, .of ea, .of eb, by rw [ra.length, rb.length]; exact w.1, fun e => ?_, fun _ e => ?_, fun _ _ => k_new s k (.tup (ra.append rb)) w.2⟩))
      · subst e
        cases ra
        rcases ry with ry | ⟨_, _, _, _, _, ry⟩
        · exact k_same s k ry w.2
        · cases ry
      · subst e
        cases rb
        have w' : Φ (.tup xs) := by have := w.2; rwa [List.append_nil] at this
        rcases rx with rx | ⟨_, _, _, _, _, rx⟩
        · exact k_same s k rx w'
        · cases rx
    | _ => exact w.elim
  | str i =>
    cases e with
    | str j => rw [rx.str, ry.str]; exact .inr (.inr (.inr (.inl ⟨i, j, rfl, rfl, w.1, k_same s k (.str _) w.2⟩)))
    | _ => exact w.elim
  | _ => exact w.elim
@[simp] def wCat : W2
  | .lst xs, .lst ys, Φ => xs.length + ys.length ≤ sizeLine ∧ Φ (.lst (xs ++ ys))
  | _, _, _ => False
theorem f_cat {K : Fr} : DFp2 K rCat wCat := by
  intro F H x y d e Q Φ s rx ry w k
  cases d with
  | lst xs =>
    cases e with
    | lst ys =>
      obtain ⟨a, vs, rfl, ea, ra⟩ := rx.lst s
      obtain ⟨b, ws, rfl, eb, rb⟩ := ry.lst s
      exact ⟨a, b, vs, ws, rfl, rfl, ea, eb, by rw [ra.length, rb.length]; exact w.1, k_newF s k (.lst (ra.append rb)) w.2⟩
    | _ => exact w.elim
  | _ => exact w.elim
/-! ### ints -/
@[simp] def wII (C : Int → Int → Prop) (g : Int → Int → D) : W2
  | .int i, .int j, Φ => C i j ∧ Φ (g i j)
  | _, _, _ => False
theorem d_ii {K : Fr} {C C' : Int → Int → Prop} {g : Int → Int → V} {g' : Int → Int → D} (hc : ∀ i j, C' i j → C i j) (hg : ∀ F i j, Rep K F (g i j) (g' i j)) : DOp2 K (rI C g) (wII C' g') := by
  intro F H x y d e Q Φ s rx ry w k
  cases d with
  | int i =>
    cases e with
    | int j => rw [rx.int, ry.int]; exact ⟨i, j, rfl, rfl, hc _ _ w.1, k_same s k (hg F i j) w.2⟩
    | _ => exact w.elim
  | _ => exact w.elim
theorem d_ii0 {K : Fr} {g : Int → Int → V} {g' : Int → Int → D} (hg : ∀ F i j, Rep K F (g i j) (g' i j)) : DOp2 K (rI0 g) (wII (fun _ _ => True) g') := by
  intro F H x y d e Q Φ s rx ry w k
  cases d with
  | int i =>
    cases e with
    | int j => rw [rx.int, ry.int]; exact ⟨i, j, rfl, rfl, k_same s k (hg F i j) w.2⟩
    | _ => exact w.elim
  | _ => exact w.elim
@[simp] def wSub : W2 := wII (fun _ _ => True) fun i j => .int (i - j)
theorem d_sub {K : Fr} : DOp2 K (rI0 fun i j => .int (i - j)) wSub := d_ii0 fun _ _ _ => .int _
/-- products: one factor small, or both below 2 ^ 250 -/
def mulOk (i j : Int) : Prop := CMul i j ∨ (i.natAbs < 2 ^ 250 ∧ j.natAbs < 2 ^ 250)
@[simp] def wMul : W2
  | .int i, .int j, Φ => mulOk i j ∧ Φ (.int (i * j))
  | .lst xs, .int k, Φ => (-(2 ^ 63) ≤ k ∧ k < 2 ^ 63 ∧ xs.length * k.toNat ≤ sizeLine) ∧ Φ (.lst (List.replicate k.toNat xs).flatten)
  | _, _, _ => False
def rMulA : R2 := fun x y H Q => rI CMul (fun i j => .int (i * j)) x y H Q ∨ rI CMulW (fun i j => .int (i * j)) x y H Q ∨ rRep x y H Q
theorem o_mul {K : Fr} {X : Cx} (hk : X.K = K) : OpR X (binaryOp .Mult) rMulA := op_mul.or (op_mulW.or op_rep)
theorem RepL.rep {K : Fr} {F : Hp} {vs : List V} {ds : List D} (r : RepL K F vs ds) : ∀ k : Nat, RepL K F (List.replicate k vs).flatten (List.replicate k ds).flatten
  | 0 => .nil
  | k + 1 => by rw [List.replicate_succ, List.replicate_succ, List.flatten_cons, List.flatten_cons]; exact r.append (r.rep k)
theorem d_mul {K : Fr} : DOp2 K rMulA wMul := by
  intro F H x y d e Q Φ s rx ry w k
  cases d with
  | int i =>
    cases e with
    | int j =>
      rw [rx.int, ry.int]
      rcases w with ⟨w1 | w1, w2⟩
      · exact .inl ⟨i, j, rfl, rfl, w1, k_same s k (.int _) w2⟩
      · exact .inr (.inl ⟨i, j, rfl, rfl, wide_mul w1.1 w1.2 (by decide) (by decide) (by decide), k_same s k (.int _) w2⟩)
    | _ => exact w.elim
  | lst xs =>
    cases e with
    | int j =>
      obtain ⟨a, vs, rfl, ea, ra⟩ := rx.lst s
      rw [ry.int]
      exact .inr (.inr ⟨a, j, vs, rfl, rfl, ea, w.1.1, w.1.2.1, by rw [ra.length]; exact w.1.2.2, k_new s k (.lst (ra.rep _)) w.2⟩)
    | _ => exact w.elim
  | _ => exact w.elim
@[simp] def wRep : W2
  | .lst xs, .int k, Φ => (-(2 ^ 63) ≤ k ∧ k < 2 ^ 63 ∧ xs.length * k.toNat ≤ sizeLine) ∧ Φ (.lst (List.replicate k.toNat xs).flatten)
  | _, _, _ => False
theorem f_rep {K : Fr} : DFp2 K rRep wRep := by
  intro F H x y d e Q Φ s rx ry w k
  cases d with
  | lst xs =>
    cases e with
    | int j =>
      obtain ⟨a, vs, rfl, ea, ra⟩ := rx.lst s
      rw [ry.int]
      exact ⟨a, j, vs, rfl, rfl, ea, w.1.1, w.1.2.1, by rw [ra.length]; exact w.1.2.2, k_newF s k (.lst (ra.rep _)) w.2⟩
    | _ => exact w.elim
  | _ => exact w.elim
def divOk (_ j : Int) : Prop := 0 < j ∧ j < 2 ^ 250
@[simp] def wDiv : W2 := wII divOk fun i j => .int (i / j)
theorem divOk_w {i j : Int} (h : divOk i j) : CDivW i j := by
  refine wide_div (b := 250) h.1 ?_ (by decide) (by decide)
  have h1 : (0 : Int) < j := h.1
  have h2 : j < 2 ^ 250 := h.2
  omega
theorem d_div {K : Fr} : DOp2 K (rI CDivW fun i j => .int (i / j)) wDiv := d_ii (fun _ _ => divOk_w) fun _ _ _ => .int _
@[simp] def wMod : W2 := wII (fun _ j => 0 < j) fun i j => .int (i % j)
theorem d_mod {K : Fr} : DOp2 K (rI (fun _ j => 0 < j) fun i j => .int (i % j)) wMod := d_ii (fun _ _ h => h) fun _ _ _ => .int _
@[simp] def wPow : W2 := wII CPow fun i j => .int (i ^ j.toNat)
theorem d_pow {K : Fr} : DOp2 K (rI CPow fun i j => .int (i ^ j.toNat)) wPow := d_ii (fun _ _ h => h) fun _ _ _ => .int _
@[simp] def wLt : W2 := wII (fun _ _ => True) fun i j => .bl (decide (i < j))
@[simp] def wLe : W2 := wII (fun _ _ => True) fun i j => .bl (decide (i ≤ j))
@[simp] def wGt : W2 := wII (fun _ _ => True) fun i j => .bl (decide (j < i))
@[simp] def wGe : W2 := wII (fun _ _ => True) fun i j => .bl (decide (j ≤ i))
theorem d_lt {K : Fr} : DOp2 K (rI0 fun i j => .bl (decide (i < j))) wLt := d_ii0 fun _ _ _ => .bl _
theorem d_le {K : Fr} : DOp2 K (rI0 fun i j => .bl (decide (i ≤ j))) wLe := d_ii0 fun _ _ _ => .bl _
theorem d_gt {K : Fr} : DOp2 K (rI0 fun i j => .bl (decide (j < i))) wGt := d_ii0 fun _ _ _ => .bl _
theorem d_ge {K : Fr} : DOp2 K (rI0 fun i j => .bl (decide (j ≤ i))) wGe := d_ii0 fun _ _ _ => .bl _

/-! ### equality of data -/
mutual
def py : D → PyData
  | .non => .none | .bl b => .bool b | .int i => .int i | .str x => .str x
  | .lst xs => .list (pys xs) | .tup xs => .tuple (pys xs) | .scr ns => .list (ns.map .int) | .dK _ => .none | .dT _ => .none
def pys : List D → List PyData
  | [] => []
  | x :: xs => py x :: pys xs
end
theorem pys_map : ∀ xs : List D, pys xs = xs.map py
  | [] => rfl
  | x :: xs => by rw [pys, pys_map xs]; rfl
/-- data without dicts, at most n deep -/
def shp : Nat → D → Bool
  | _, .non => true | _, .bl _ => true | _, .int _ => true | _, .str x => PyData.strOk x
  | 0, .lst _ => false | 0, .tup _ => false | 0, .scr _ => false
  | n + 1, .lst xs => xs.all (shp n) | n + 1, .tup xs => xs.all (shp n) | _ + 1, .scr _ => true
  | _, .dK _ => false | _, .dT _ => false
mutual
theorem shp_lay : ∀ (n : Nat) (d : D), shp n d = true → (py d).canLay0 = true ∧ (py d).depth ≤ n
  | n, .non, _ => by simp [py, PyData.canLay0, PyData.depth]
  | n, .bl _, _ => by simp [py, PyData.canLay0, PyData.depth]
  | n, .int _, _ => by simp [py, PyData.canLay0, PyData.depth]
  | n, .str x, h => by
    have h' : PyData.strOk x = true := by cases n <;> exact h
    simp [py, PyData.canLay0, PyData.depth, h']
  | 0, .lst xs, h => by simp [shp] at h
  | 0, .tup xs, h => by simp [shp] at h
  | 0, .scr xs, h => by simp [shp] at h
  | n + 1, .lst xs, h => by
    obtain ⟨h1, h2⟩ := shps_lay n xs (by simpa [shp] using h)
    simp only [py, PyData.canLay0, PyData.depth]
    exact ⟨h1, by omega⟩
  | n + 1, .tup xs, h => by
    obtain ⟨h1, h2⟩ := shps_lay n xs (by simpa [shp] using h)
    simp only [py, PyData.canLay0, PyData.depth]
    exact ⟨h1, by omega⟩
  | n + 1, .scr ns, h => by
    have h1 : PyData.canLayAll0 (ns.map .int) = true := by
      induction ns with
      | nil => rfl
      | cons a r ih => simp only [List.map_cons, PyData.canLayAll0, PyData.canLay0, Bool.true_and]; exact ih (by simp [shp])
    have h2 : PyData.depthAll (ns.map .int) = 0 := by
      clear h1 h
      induction ns with
      | nil => rfl
      | cons a r ih => simp only [List.map_cons, PyData.depthAll, PyData.depth, ih]; rfl
    simp only [py, PyData.canLay0, PyData.depth]
    exact ⟨h1, by omega⟩
  | 0, .dK _, h => by simp [shp] at h
  | 0, .dT _, h => by simp [shp] at h
  | _ + 1, .dK _, h => by simp [shp] at h
  | _ + 1, .dT _, h => by simp [shp] at h
theorem shps_lay : ∀ (n : Nat) (xs : List D), (∀ x ∈ xs, shp n x = true) → PyData.canLayAll0 (pys xs) = true ∧ PyData.depthAll (pys xs) ≤ n
  | n, [], _ => by simp [pys, PyData.canLayAll0, PyData.depthAll]
  | n, x :: xs, h => by
    obtain ⟨h1, h2⟩ := shp_lay n x (h x (by simp))
    obtain ⟨h3, h4⟩ := shps_lay n xs fun y hy => h y (by simp [hy])
    simp only [pys, PyData.canLayAll0, PyData.depthAll, h1, h3, Bool.true_and, true_and]
    omega
end
theorem shp_shaped {d : D} (h : shp 9 d = true) : SeqAt.shaped (py d) = true := by
  obtain ⟨h1, h2⟩ := shp_lay 9 d h
  simp only [SeqAt.shaped, h1, Bool.true_and, decide_eq_true_eq]
  omega
theorem dpAll_ints {K : Fr} {H : Hp} : ∀ ns : List Int, DpAll K H (ns.map V.int) (ns.map PyData.int)
  | [] => .nil
  | n :: ns => .cons (.int n) (dpAll_ints ns)
mutual
theorem dp_of {K : Fr} {H : Hp} : ∀ {n : Nat} {v : V} {d : D}, Rep K H v d → shp n d = true → Dp K H v (py d)
  | _, _, _, .non, _ => by simp only [py]; exact .non
  | _, _, _, .bl b, _ => by simp only [py]; exact .bl b
  | _, _, _, .int i, _ => by simp only [py]; exact .int i
  | _, _, _, .str x, _ => by simp only [py]; exact .str x
  | n, _, _, .ob e r, h => dpO_of r e h
  | _, _, _, .scr e, _ => by simp only [py]; exact .lst e (dpAll_ints _)
theorem dpO_of {K : Fr} {H : Hp} : ∀ {n : Nat} {o : HO} {d : D} {a : Addr}, RepO K H o d → H a = some o → shp n d = true → Dp K H (.ref a) (py d)
  | 0, _, _, _, .lst r, e, h => by simp [shp] at h
  | n + 1, _, _, _, .lst r, e, h => by simp only [py]; exact .lst (.of e) (dpL_of r (by simpa [shp] using h))
  | 0, _, _, _, .tup r, e, h => by simp [shp] at h
  | n + 1, _, _, _, .tup r, e, h => by simp only [py]; exact .tup (.of e) (dpL_of r (by simpa [shp] using h))
  | 0, _, _, _, .dK r, e, h => by simp [shp] at h
  | n + 1, _, _, _, .dK r, e, h => by simp [shp] at h
  | 0, _, _, _, .dT r, e, h => by simp [shp] at h
  | n + 1, _, _, _, .dT r, e, h => by simp [shp] at h
theorem dpL_of {K : Fr} {H : Hp} : ∀ {n : Nat} {vs : List V} {ds : List D}, RepL K H vs ds → (∀ d ∈ ds, shp n d = true) → DpAll K H vs (pys ds)
  | _, _, _, .nil, _ => by simp only [pys]; exact .nil
  | _, _, _, .cons a b, h => by
    simp only [pys]
    exact .cons (dp_of a (h _ (by simp))) (dpL_of b fun d hd => h d (by simp [hd]))
end
/-- Python's == of data -/
def deq (d e : D) : Bool := PyData.eqv (py d) (py e)
@[simp] def wEq : W2 := fun d e Φ => (shp 9 d = true ∧ shp 9 e = true) ∧ Φ (.bl (deq d e))
@[simp] def wNe : W2 := fun d e Φ => (shp 9 d = true ∧ shp 9 e = true) ∧ Φ (.bl (!deq d e))
theorem d_eq {K : Fr} : DOp2 K (rEqD K) wEq := fun F H x y d e Q Φ s rx ry w k =>
  ⟨py d, py e, dp_of (rx.rep s) w.1.1, dp_of (ry.rep s) w.1.2, shp_shaped w.1.1, shp_shaped w.1.2, k_same s k (.bl _) w.2⟩
theorem d_ne {K : Fr} : DOp2 K (rNeD K) wNe := fun F H x y d e Q Φ s rx ry w k =>
  ⟨py d, py e, dp_of (rx.rep s) w.1.1, dp_of (ry.rep s) w.1.2, shp_shaped w.1.1, shp_shaped w.1.2, k_same s k (.bl _) w.2⟩
theorem o_eq {K : Fr} {X : Cx} {k : Nat} (hr : Room k X.A) (hk : X.K = K) : OpR X (compareOp .Eq) (rEqD K) := by
  cases hk
  exact op_eqD hr.units
theorem o_ne {K : Fr} {X : Cx} {k : Nat} (hr : Room k X.A) (hk : X.K = K) : OpR X (compareOp .NotEq) (rNeD K) := by
  cases hk
  exact op_neD hr.units
/-! ### items -/
@[simp] def wIx : W2
  | .lst xs, .int i, Φ => ∃ z, atI xs i = some z ∧ Φ z
  | .tup xs, .int i, Φ => ∃ z, atI xs i = some z ∧ Φ z
  | .scr ns, .int i, Φ => ∃ z, atI ns i = some z ∧ Φ (.int z)
  | .str x, .int i, Φ => x.length ≤ sizeLine ∧ ∃ c, atI x.cps.toList i = some c ∧ Φ (.str ⟨#[c]⟩)
  | _, _, _ => False
theorem RepL.atI {K : Fr} {F : Hp} {vs : List V} {ds : List D} {i : Int} {z : D} (r : RepL K F vs ds) (h : L2.atI ds i = some z) : ∃ v, L2.atI vs i = some v ∧ Rep K F v z := by
  unfold L2.atI at h ⊢
  rw [r.length]
  cases q : ixN ds.length i with
  | none => rw [q] at h; cases h
  | some j => rw [q] at h; exact r.get h
theorem d_ix {K : Fr} : DOp2 K (rIx K) wIx := by
  intro F H x y d e Q Φ s rx ry w k
  cases e with
  | int i =>
    rw [ry.int]
    cases d with
    | lst xs =>
      obtain ⟨a, vs, rfl, ea, ra⟩ := rx.lst s
      obtain ⟨z, hz, φ⟩ := w
      obtain ⟨v, hv, rv⟩ := ra.atI hz
      exact .inl ⟨a, vs, i, v, rfl, rfl, .of ea, hv, k_same s k rv φ⟩
    | tup xs =>
      obtain ⟨a, vs, rfl, ea, ra⟩ := rx.tup s
      obtain ⟨z, hz, φ⟩ := w
      obtain ⟨v, hv, rv⟩ := ra.atI hz
      exact .inr (.inl ⟨a, vs, i, v, rfl, rfl, .of ea, hv, k_same s k rv φ⟩)
    | scr ns =>
      obtain ⟨a, rfl, ea⟩ := rx.scr s
      obtain ⟨z, hz, φ⟩ := w
      refine .inl ⟨a, _, i, .int z, rfl, rfl, ea, ?_, k_same s k (.int z) φ⟩
      unfold L2.atI at hz ⊢
      rw [List.length_map]
      cases q : ixN ns.length i with
      | none => rw [q] at hz; cases hz
      | some j =>
        rw [q] at hz
        have hz' : ns[j]? = some z := hz
        show (ns.map V.int)[j]? = some (.int z)
        rw [List.getElem?_map, hz']; rfl
    | str x =>
      rw [rx.str]
      obtain ⟨h1, c, h2, φ⟩ := w
      exact .inr (.inr ⟨x, i, c, rfl, rfl, h1, h2, k_same s k (.str _) φ⟩)
    | _ => exact w.elim
  | _ => cases d <;> exact w.elim
/-! ### built-ins -/
@[simp] def wLen : WC
  | [.lst xs], Φ => Φ (.int xs.length)
  | [.tup xs], Φ => Φ (.int xs.length)
  | [.scr ns], Φ => Φ (.int ns.length)
  | [.str x], Φ => x.length ≤ sizeLine ∧ Φ (.int x.length)
  | _, _ => False
theorem d_len {K : Fr} : DCall K (fun xs H Q => ∃ x n, xs = [x] ∧ LenV K x H n ∧ Q (.int n) H) wLen := by
  intro F H vs ds Q Φ s r w k
  match ds, w with
  | [.lst xs], w =>
    cases r with
    | cons r1 r2 =>
      cases r2
      obtain ⟨a, us, rfl, ea, ra⟩ := r1.lst s
      exact ⟨_, _, rfl, .inl ⟨us, .of ea, rfl⟩, by rw [ra.length]; exact k_same s k (.int _) w⟩
  | [.tup xs], w =>
    cases r with
    | cons r1 r2 =>
      cases r2
      obtain ⟨a, us, rfl, ea, ra⟩ := r1.tup s
      exact ⟨_, _, rfl, .inr ⟨us, .of ea, rfl⟩, by rw [ra.length]; exact k_same s k (.int _) w⟩
  | [.scr ns], w =>
    cases r with
    | cons r1 r2 =>
      cases r2
      obtain ⟨a, rfl, ea⟩ := r1.scr s
      exact ⟨_, _, rfl, .inl ⟨_, ea, rfl⟩, by rw [List.length_map]; exact k_same s k (.int _) w⟩
  | [.str x], w =>
    cases r with
    | cons r1 r2 =>
      cases r2
      rw [r1.str]
      exact ⟨_, _, rfl, ⟨w.1, rfl⟩, k_same s k (.int _) w.2⟩
/-- the ints of a list -/
def ints? : List D → Option (List Int)
  | [] => some []
  | .int i :: r => (ints? r).map (i :: ·)
  | _ :: _ => none
theorem ints_some : ∀ {ds : List D} {ns : List Int}, ints? ds = some ns → ds = ns.map .int
  | [], ns, h => by simp [ints?] at h; subst h; rfl
  | .int i :: r, ns, h => by
    simp only [ints?, Option.map_eq_some_iff] at h
    obtain ⟨ms, h1, rfl⟩ := h
    rw [ints_some h1]; rfl
  | .non :: _, _, h => by simp [ints?] at h
  | .bl _ :: _, _, h => by simp [ints?] at h
  | .str _ :: _, _, h => by simp [ints?] at h
  | .lst _ :: _, _, h => by simp [ints?] at h
  | .tup _ :: _, _, h => by simp [ints?] at h
  | .scr _ :: _, _, h => by simp [ints?] at h
  | .dK _ :: _, _, h => by simp [ints?] at h
  | .dT _ :: _, _, h => by simp [ints?] at h
@[simp] theorem ints_map (ns : List Int) : ints? (ns.map .int) = some ns := by
  induction ns with
  | nil => rfl
  | cons a r ih => simp [ints?, ih]
@[simp] def wInts (w : List Int → (D → Prop) → Prop) : WC
  | [.lst ds], Φ => ∃ ns, ints? ds = some ns ∧ w ns Φ
  | _, _ => False
theorem intsV {K : Fr} {F H : Hp} {vs : List V} {ds : List D} {w : List Int → (D → Prop) → Prop} {Φ : D → Prop} (s : Same F H) (r : BRepL K F H vs ds) (h : wInts w ds Φ) : ∃ a ns, vs = [.ref a] ∧ SqL K H a (ns.map V.int) ∧ w ns Φ := by
  match ds, h with
  | [.lst xs], h =>
    cases r with
    | cons r1 r2 =>
      cases r2
      obtain ⟨a, us, rfl, ea, ra⟩ := r1.lst s
      obtain ⟨ns, h1, h2⟩ := h
      rw [ints_some h1] at ra
      rw [ra.ints] at ea
      exact ⟨a, ns, rfl, .of ea, h2⟩
@[simp] def wSum : WC := wInts fun ns Φ => Φ (.int ns.sum)
theorem d_sum {K : Fr} : DCall K (rSum K) wSum := by
  intro F H vs ds Q Φ s r w k
  obtain ⟨a, ns, rfl, h, w⟩ := intsV s r w
  exact ⟨a, ns, rfl, h, k_same s k (.int _) w⟩
@[simp] def wMaxL : WC := wInts fun ns Φ => 0 < ns.length ∧ ∀ m, m ∈ ns → (∀ y, y ∈ ns → y ≤ m) → Φ (.int m)
@[simp] def wMinL : WC := wInts fun ns Φ => 0 < ns.length ∧ ∀ m, m ∈ ns → (∀ y, y ∈ ns → m ≤ y) → Φ (.int m)
theorem d_maxL {K : Fr} : DCall K (rMax K) wMaxL := by
  intro F H vs ds Q Φ s r w k
  obtain ⟨a, ns, rfl, h, w1, w2⟩ := intsV s r w
  exact ⟨a, ns, rfl, h, w1, fun m h1 h2 => k_same s k (.int _) (w2 m h1 h2)⟩
theorem d_minL {K : Fr} : DCall K (rMin K) wMinL := by
  intro F H vs ds Q Φ s r w k
  obtain ⟨a, ns, rfl, h, w1, w2⟩ := intsV s r w
  exact ⟨a, ns, rfl, h, w1, fun m h1 h2 => k_same s k (.int _) (w2 m h1 h2)⟩
@[simp] def wSortI : WC := wInts fun ns Φ => ∀ ns' : List Int, ns'.Perm ns → ns'.Pairwise (· ≤ ·) → Φ (.lst (ns'.map .int))
theorem f_sortI {K : Fr} : DFCall K (rSortedI K) wSortI := by
  intro F H vs ds Q Φ s r w k
  obtain ⟨a, ns, rfl, h, w⟩ := intsV s r w
  exact ⟨a, ns, rfl, h, fun ns' p h1 h2 n => k_newF s k (.lst (RepL.ofInts ns')) (w ns' h1 h2) p n⟩
@[simp] def w2I (g : Int → Int → Int) : WC
  | [.int i, .int j], Φ => Φ (.int (g i j))
  | _, _ => False
theorem d_2I {K : Fr} {g : Int → Int → Int} : DCall K (fun xs H Q => ∃ i j, xs = [V.int i, .int j] ∧ Q (.int (g i j)) H) (w2I g) := by
  intro F H vs ds Q Φ s r w k
  match ds, w with
  | [.int i, .int j], w =>
    cases r with
    | cons r1 r2 =>
      cases r2 with
      | cons r2 r3 =>
        cases r3
        rw [r1.int, r2.int]
        exact ⟨i, j, rfl, k_same s k (.int _) w⟩
@[simp] def wMax2 : WC := w2I fun i j => if j > i then j else i
@[simp] def wMin2 : WC := w2I fun i j => if j < i then j else i
@[simp] def wInt : WC
  | [.int i], Φ => Φ (.int i)
  | [.bl b], Φ => Φ (.int (if b then 1 else 0))
  | _, _ => False
theorem d_int {K : Fr} : DCall K (fun xs H Q => (∃ i, xs = [V.int i] ∧ Q (.int i) H) ∨ ∃ k, xs = [.bl k] ∧ Q (.int (if k then 1 else 0)) H) wInt := by
  intro F H vs ds Q Φ s r w k
  match ds, w with
  | [.int i], w =>
    cases r with
    | cons r1 r2 => cases r2; rw [r1.int]; exact .inl ⟨i, rfl, k_same s k (.int _) w⟩
  | [.bl i], w =>
    cases r with
    | cons r1 r2 => cases r2; rw [r1.bl]; exact .inr ⟨i, rfl, k_same s k (.int _) w⟩
@[simp] def wAbs : WC
  | [.int i], Φ => Φ (.int (if i < 0 then -i else i))
  | _, _ => False
theorem d_abs {K : Fr} : DCall K (fun xs H Q => ∃ i, xs = [V.int i] ∧ Q (.int (if i < 0 then -i else i)) H) wAbs := by
  intro F H vs ds Q Φ s r w k
  match ds, w with
  | [.int i], w =>
    cases r with
    | cons r1 r2 => cases r2; rw [r1.int]; exact ⟨i, rfl, k_same s k (.int _) w⟩
@[simp] def wDivmod : WC
  | [.int i, .int j], Φ => CDiv i j ∧ Φ (.tup [.int (i / j), .int (i % j)])
  | _, _ => False
theorem d_divmod {K : Fr} : DCall K (fun xs H Q => ∃ i j, xs = [V.int i, .int j] ∧ CDiv i j ∧ ∀ p, H p = none → Q (.ref p) (upd H p (.tup [.int (i / j), .int (i % j)]))) wDivmod := by
  intro F H vs ds Q Φ s r w k
  match ds, w with
  | [.int i, .int j], w =>
    cases r with
    | cons r1 r2 =>
      cases r2 with
      | cons r2 r3 =>
        cases r3
        rw [r1.int, r2.int]
        exact ⟨i, j, rfl, w.1, k_new s k (.tup (.cons (.int _) (.cons (.int _) .nil))) w.2⟩
/-- list(x), of a list or a tuple -/
@[simp] def wList : WC
  | [.lst xs], Φ => Φ (.lst xs)
  | [.tup xs], Φ => Φ (.lst xs)
  | [.scr ns], Φ => Φ (.lst (ns.map .int))
  | _, _ => False
theorem f_list {K : Fr} : DFCall K (fun xs H Q => ∃ p ys, xs = [.ref p] ∧ (SqL K H p ys ∨ SqT K H p ys) ∧ ∀ l, H l = none → Q (.ref l) (upd H l (.lst ys))) wList := by
  intro F H vs ds Q Φ s r w k
  match ds, w with
  | [.lst xs], w =>
    cases r with
    | cons r1 r2 =>
      cases r2
      obtain ⟨a, us, rfl, ea, ra⟩ := r1.lst s
      exact ⟨a, us, rfl, .inl (.of ea), k_newF s k (.lst ra) w⟩
  | [.tup xs], w =>
    cases r with
    | cons r1 r2 =>
      cases r2
      obtain ⟨a, us, rfl, ea, ra⟩ := r1.tup s
      exact ⟨a, us, rfl, .inr (.of ea), k_newF s k (.lst ra) w⟩
  | [.scr ns], w =>
    cases r with
    | cons r1 r2 =>
      cases r2
      obtain ⟨a, rfl, ea⟩ := r1.scr s
      exact ⟨a, _, rfl, .inl ea, k_newF s k (.lst (RepL.ofInts ns)) w⟩
/-- tuple(x) -/
@[simp] def wTuple : WC
  | [.lst xs], Φ => Φ (.tup xs)
  | [.tup xs], Φ => Φ (.tup xs)
  | _, _ => False
theorem d_tuple {K : Fr} : DCall K (fun xs H Q => ∃ p ys, xs = [.ref p] ∧ ((SqL K H p ys ∧ ∀ l, H l = none → Q (.ref l) (upd H l (.tup ys))) ∨ (SqT K H p ys ∧ Q (.ref p) H))) wTuple := by
  intro F H vs ds Q Φ s r w k
  match ds, w with
  | [.lst xs], w =>
    cases r with
    | cons r1 r2 =>
      cases r2
      obtain ⟨a, us, rfl, ea, ra⟩ := r1.lst s
      exact ⟨a, us, rfl, .inl ⟨.of ea, k_new s k (.tup ra) w⟩⟩
  | [.tup xs], w =>
    cases r with
    | cons r1 r2 =>
      cases r2
      obtain ⟨a, us, rfl, ea, ra⟩ := r1.tup s
      refine ⟨a, us, rfl, .inr ⟨.of ea, ?_⟩⟩
      rcases r1 with r1 | ⟨_, _, _, _, _, r1⟩
      · exact k_same s k r1 w
      · cases r1
/-- all, any of a list of bools -/
def bls? : List D → Option (List Bool)
  | [] => some []
  | .bl i :: r => (bls? r).map (i :: ·)
  | _ :: _ => none
theorem bls_some {K : Fr} {F : Hp} : ∀ {ds : List D} {ns : List Bool} {vs : List V}, bls? ds = some ns → RepL K F vs ds → vs = ns.map V.bl
  | [], ns, vs, h, r => by simp [bls?] at h; subst h; cases r; rfl
  | .bl i :: r, ns, vs, h, q => by
    simp only [bls?, Option.map_eq_some_iff] at h
    obtain ⟨ms, h1, rfl⟩ := h
    cases q with
    | cons q1 q2 => rw [q1.bl_inv, bls_some h1 q2]; rfl
  | .non :: _, _, _, h, _ => by simp [bls?] at h
  | .int _ :: _, _, _, h, _ => by simp [bls?] at h
  | .str _ :: _, _, _, h, _ => by simp [bls?] at h
  | .lst _ :: _, _, _, h, _ => by simp [bls?] at h
  | .tup _ :: _, _, _, h, _ => by simp [bls?] at h
  | .scr _ :: _, _, _, h, _ => by simp [bls?] at h
  | .dK _ :: _, _, _, h, _ => by simp [bls?] at h
  | .dT _ :: _, _, _, h, _ => by simp [bls?] at h
@[simp] theorem bls_map (ns : List Bool) : bls? (ns.map .bl) = some ns := by
  induction ns with
  | nil => rfl
  | cons a r ih => simp [bls?, ih]
@[simp] def wBls (g : List Bool → Bool) : WC
  | [.lst ds], Φ => ∃ bs, bls? ds = some bs ∧ Φ (.bl (g bs))
  | _, _ => False
theorem d_bls {K : Fr} {g : List Bool → Bool} : DCall K (fun vs H Q => ∃ (a : Addr) (bs : List Bool), vs = [V.ref a] ∧ SqL K H a (bs.map V.bl) ∧ Q (.bl (g bs)) H) (wBls g) := by
  intro F H vs ds Q Φ s r w k
  match ds, w with
  | [.lst xs], w =>
    cases r with
    | cons r1 r2 =>
      cases r2
      obtain ⟨a, us, rfl, ea, ra⟩ := r1.lst s
      obtain ⟨bs, h1, φ⟩ := w
      exact ⟨a, bs, rfl, by rw [← bls_some h1 ra]; exact .of ea, k_same s k (.bl _) φ⟩
@[simp] def wAll : WC := wBls fun bs => bs.all id
@[simp] def wAny : WC := wBls fun bs => bs.any id
/-! ### isinstance -/
@[simp] def isiB (T : String) : D → Bool
  | .non => false
  | .bl _ => T == "bool" || T == "int"
  | .int _ => T == "int"
  | .str _ => T == "str"
  | .lst _ => T == "list"
  | .scr _ => T == "list"
  | .tup _ => T == "tuple"
  | .dK _ => T == "dict"
  | .dT _ => T == "dict"
def tyN : D → String
  | .non => "NoneType" | .bl _ => "bool" | .int _ => "int" | .str _ => "str" | .lst _ => "list" | .scr _ => "list" | .tup _ => "tuple" | .dK _ => "dict" | .dT _ => "dict"
theorem tyX_of {K : Fr} {F H : Hp} {v : V} {d : D} (s : Same F H) (r : BRep K F H v d) : TyX K H v (.type (tyN d)) := by
  cases d with
  | non => rw [r.non]; exact .base .non
  | bl b => rw [r.bl]; exact .base (.bl b)
  | int b => rw [r.int]; exact .base (.int b)
  | str b => rw [r.str]; exact .base (.str b)
  | lst xs => obtain ⟨a, us, rfl, ea, ra⟩ := r.lst s; exact .base (.lst ea)
  | tup xs => obtain ⟨a, us, rfl, ea, ra⟩ := r.tup s; exact .base (.tup ea)
  | scr ns =>
    obtain ⟨a, rfl, ea⟩ := r.scr s
    rcases ea with (ea | ⟨o, ea⟩) | ⟨o, its, n, h1, h2, _⟩
    · exact .base (.lst ea)
    · exact .base (.frz ea)
    · exact .kList h1 h2
  | dK kvs =>
    rcases r with r | ⟨a, o, rfl, n, q, r⟩
    · cases r with
      | ob e r => cases r; exact .base (.dK (s _ _ e))
    · cases r; exact .base (.dK q)
  | dT kvs =>
    rcases r with r | ⟨a, o, rfl, n, q, r⟩
    · cases r with
      | ob e r => cases r; exact .base (.dT (s _ _ e))
    · cases r; exact .base (.dT q)
@[simp] def wIsi (T : String) : W1 := fun d Φ => Φ (.bl (isiB T d))
theorem de_isi {K : Fr} {X : Cx} {a : Expr} {ta : TE} {fa : WE} {T : String} {p p2 pos : Pos} (ha : DB K X a ta fa) (hm : X.mg "isinstance" = none) (hm2 : X.mg T = none) (hT : bootBuiltins T = some (.type T)) (hk : ∀ d : D, kitB (tyN d) T = some (isiB T d)) (hg : Gl X "isinstance" := by rfl) (hg2 : Gl X (Str.ofString T) := by rfl)
    (hn : (Str.ofString T) ≠ "__name__" := by decide) (hdb : ((Str.ofString T) == ("__debug__" : Str)) = false := by decide)
    (he : starEach [a, .Name (Str.ofString T) p2] X.env = (false, eval a X.env) :: starEach [.Name (Str.ofString T) p2] X.env := by rfl) :
    DE K X (.Call (.Name "isinstance" p) [a, .Name (Str.ofString T) p2] [] pos) (tCB (rIsi K) (tCons ta (tCons (tC (.ty T)) tNil))) (w1 (wIsi T) fa) := by
  obtain rfl := ha.k
  refine ⟨rfl, pe_callB call_isi hg hm (by decide +kernel) (pa_cons ha.p (pa_cons (pe_bltn hg2 hm2 hT rfl hn hdb) pa_nil) he) (by decide) (by decide) he rfl, fun B HB F Γ σ H Q Φ j w k => ha.s B HB F Γ σ H _ _ j w fun v d F' H' g r φ => ?_⟩
  exact ⟨v, _, _, _, isiB T d, rfl, .ty T, tyX_of g.fh r, kit_ty (hk d), k _ _ F' H' g (.bl _) φ⟩
/-! ### the kit's rules, by K -/
section
variable {K : Fr} {X : Cx}
theorem o_cat (_ : X.K = K) : OpR X (binaryOp .Add) rCat := op_cat
theorem o_rep (_ : X.K = K) : OpR X (binaryOp .Mult) rRep := op_rep
theorem o_sub (_ : X.K = K) : OpR X (binaryOp .Sub) (rI0 fun i j => .int (i - j)) := op_sub
theorem o_div (_ : X.K = K) : OpR X (binaryOp .FloorDiv) (rI CDivW fun i j => .int (i / j)) := op_fdivW
theorem o_mod (_ : X.K = K) : OpR X (binaryOp .Mod) (rI (fun _ j => 0 < j) fun i j => .int (i % j)) := op_mod
theorem o_pow (_ : X.K = K) : OpR X (binaryOp .Pow) (rI CPow fun i j => .int (i ^ j.toNat)) := op_pow
theorem o_lt (_ : X.K = K) : OpR X (compareOp .Lt) (rI0 fun i j => .bl (decide (i < j))) := op_lt
theorem o_le (_ : X.K = K) : OpR X (compareOp .LtE) (rI0 fun i j => .bl (decide (i ≤ j))) := op_le
theorem o_gt (_ : X.K = K) : OpR X (compareOp .Gt) (rI0 fun i j => .bl (decide (j < i))) := op_gt
theorem o_ge (_ : X.K = K) : OpR X (compareOp .GtE) (rI0 fun i j => .bl (decide (j ≤ i))) := op_ge
theorem o_iadd (_ : X.K = K) : OpR X (inplaceOp .Add) (rI0 fun i j => .int (i + j)) := iop_add
theorem o_isub (_ : X.K = K) : OpR X (inplaceOp .Sub) (rI0 fun i j => .int (i - j)) := iop_sub
theorem x_seq (hk : X.K = K) : IxR X (rIx K) := by cases hk; exact ix_seq
theorem c_len (hk : X.K = K) : CallR X (.builtin "len") (fun xs H Q => ∃ x n, xs = [x] ∧ LenV K x H n ∧ Q (.int n) H) := by cases hk; exact call_len
theorem c_sum (hc : X.calm = true) (hk : X.K = K) : CallR X (.builtin "sum") (rSum K) := by cases hk; exact cr_sum hc
theorem c_maxL (hc : X.calm = true) (hk : X.K = K) : CallR X (.builtin "max") (rMax K) := by cases hk; exact cr_max hc
theorem c_minL (hc : X.calm = true) (hk : X.K = K) : CallR X (.builtin "min") (rMin K) := by cases hk; exact cr_min hc
theorem c_max2 (hc : X.calm = true) (_ : X.K = K) : CallR X (.builtin "max") (fun xs H Q => ∃ i j, xs = [V.int i, .int j] ∧ Q (.int (if j > i then j else i)) H) := call_max2 hc
theorem c_min2 (hc : X.calm = true) (_ : X.K = K) : CallR X (.builtin "min") (fun xs H Q => ∃ i j, xs = [V.int i, .int j] ∧ Q (.int (if j < i then j else i)) H) := call_min2 hc
theorem c_int (_ : X.K = K) : CallR X (.type "int") (fun xs H Q => (∃ i, xs = [V.int i] ∧ Q (.int i) H) ∨ ∃ k, xs = [.bl k] ∧ Q (.int (if k then 1 else 0)) H) := call_int1
theorem c_abs (_ : X.K = K) : CallR X (.builtin "abs") (fun xs H Q => ∃ i, xs = [V.int i] ∧ Q (.int (if i < 0 then -i else i)) H) := call_abs
theorem c_divmod (_ : X.K = K) : CallR X (.builtin "divmod") (fun xs H Q => ∃ i j, xs = [V.int i, .int j] ∧ CDiv i j ∧ ∀ p, H p = none → Q (.ref p) (upd H p (.tup [.int (i / j), .int (i % j)]))) := call_divmod
theorem c_list (hk : X.K = K) : CallR X (.type "list") (fun xs H Q => ∃ p ys, xs = [.ref p] ∧ (SqL K H p ys ∨ SqT K H p ys) ∧ ∀ l, H l = none → Q (.ref l) (upd H l (.lst ys))) := by cases hk; exact call_list_of
theorem c_tuple (hk : X.K = K) : CallR X (.type "tuple") (fun xs H Q => ∃ p ys, xs = [.ref p] ∧ ((SqL K H p ys ∧ ∀ l, H l = none → Q (.ref l) (upd H l (.tup ys))) ∨ (SqT K H p ys ∧ Q (.ref p) H))) := by cases hk; exact call_tuple_of
theorem c_sortI (hk : X.K = K) : CallR X (.builtin "sorted") (rSortedI K) := by cases hk; exact cr_sortedI
theorem c_all (hc : X.calm = true) (hk : X.K = K) : CallR X (.builtin "all") (rAll K) := by cases hk; exact cr_all hc
theorem c_any (hc : X.calm = true) (hk : X.K = K) : CallR X (.builtin "any") (rAny K) := by cases hk; exact cr_any hc
end
end DL

set_option Elab.async false
set_option linter.all false
set_option maxRecDepth 100000
set_option maxHeartbeats 4000000
namespace DL
open PySem PySem.Spec PyProof.Rows L2

/-! ### in -/
theorem room65 {k : Nat} {A : Around} (hr : Room k A) : A.units + 65 < cLine := by have := hr.un; omega
@[simp] def flatD : D → Bool
  | .non => true | .bl _ => true | .int _ => true | .str _ => true
  | _ => false
@[simp] def wInD (neg : Bool) : W2
  | d, .lst xs, Φ => (shp 9 d = true ∧ shp 9 (.lst xs) = true) ∧ Φ (.bl (if neg then !(xs.any fun z => deq z d) else xs.any fun z => deq z d))
  | d, .tup xs, Φ => (flatD d = true ∧ xs.all flatD = true) ∧ Φ (.bl (if neg then !(xs.any fun z => deq z d) else xs.any fun z => deq z d))
  | _, _, _ => False
@[simp] def wIn : W2 := wInD false
@[simp] def wNotIn : W2 := wInD true
def rInA (K : Fr) : R2 := fun x y H Q => rInD K x y H Q ∨ rIn K false x y H Q
def rNotInA (K : Fr) : R2 := fun x y H Q => rNotInD K x y H Q ∨ rIn K true x y H Q
theorem o_in {K : Fr} {X : Cx} {k : Nat} (hr : Room k X.A) (hk : X.K = K) : OpR X (compareOp .In) (rInA K) := by
  cases hk
  exact (op_inD (room65 hr)).or op_in_seq
theorem o_notIn {K : Fr} {X : Cx} {k : Nat} (hr : Room k X.A) (hk : X.K = K) : OpR X (compareOp .NotIn) (rNotInA K) := by
  cases hk
  exact (op_notInD (room65 hr)).or op_notIn_seq
def toV : D → V
  | .bl b => .bl b | .int i => .int i | .str x => .str x | _ => .non
theorem flat_rep {K : Fr} {F : Hp} {v : V} {d : D} (r : Rep K F v d) (h : flatD d = true) : v = toV d := by
  cases d with
  | non => exact r.non_inv
  | bl b => exact r.bl_inv
  | int b => exact r.int_inv
  | str b => exact r.str_inv
  | _ => cases h
theorem flat_brep {K : Fr} {F H : Hp} {v : V} {d : D} (r : BRep K F H v d) (h : flatD d = true) : v = toV d := by
  rcases r with r | ⟨a, o, rfl, n, q, r⟩
  · exact flat_rep r h
  · cases r <;> cases h
theorem flat_toV {d : D} (h : flatD d = true) : flatV (toV d) = true := by cases d <;> first | rfl | cases h
theorem flat_repL {K : Fr} {F : Hp} : ∀ {vs : List V} {ds : List D}, RepL K F vs ds → ds.all flatD = true → vs = ds.map toV
  | _, _, .nil, _ => rfl
  | _, _, .cons a b, h => by
    simp only [List.all_cons, Bool.and_eq_true] at h
    rw [flat_rep a h.1, flat_repL b h.2]; rfl
theorem eqV_deq {d e : D} (h : flatD d = true) (h' : flatD e = true) : eqV (toV d) (toV e) = deq d e := by
  cases d <;> cases h <;> cases e <;> cases h' <;> simp [toV, eqV, deq, py, PyData.eqv]
theorem inV_deq {d : D} {xs : List D} (h : flatD d = true) (h' : xs.all flatD = true) : inV (toV d) (xs.map toV) = xs.any fun z => deq z d := by
  unfold inV
  rw [List.any_map]
  induction xs with
  | nil => rfl
  | cons z r ih =>
    simp only [List.all_cons, Bool.and_eq_true] at h'
    simp only [List.any_cons, Function.comp, eqV_deq h'.1 h]
    rw [← ih h'.2]
    try rfl
theorem any_py (xs : List D) (d : D) : (pys xs).any (fun z => PyData.eqv z (py d)) = xs.any fun z => deq z d := by
  rw [pys_map, List.any_map]; rfl
theorem d_inD {K : Fr} {neg : Bool} {r : R2} (h1 : ∀ x y H Q d ds, Dp K H x d → Dp K H y (.list ds) → SeqAt.shaped d = true → SeqAt.shaped (.list ds) = true → Q (.bl (if neg then !(ds.any fun z => PyData.eqv z d) else ds.any fun z => PyData.eqv z d)) H → r x y H Q)
    (h2 : ∀ x y H Q, rIn K neg x y H Q → r x y H Q) : DOp2 K r (wInD neg) := by
  intro F H x y d e Q Φ s rx ry w k
  cases e with
  | lst xs =>
    obtain ⟨⟨w1, w2⟩, w3⟩ := w
    refine h1 x y H Q (py d) (pys xs) (dp_of (rx.rep s) w1) (by have := dp_of (ry.rep s) w2; simpa only [py] using this) (shp_shaped w1) (by have := shp_shaped w2; simpa only [py] using this) ?_
    rw [any_py]
    exact k_same s k (.bl _) w3
  | tup xs =>
    obtain ⟨⟨w1, w2⟩, w3⟩ := w
    obtain ⟨a, vs, rfl, ea, ra⟩ := ry.tup s
    refine h2 _ _ _ _ ⟨a, vs, rfl, .inr (.of ea), ?_, ?_, ?_⟩
    · rw [flat_brep rx w1]; exact flat_toV w1
    · rw [flat_repL ra w2, List.all_map]
      rw [List.all_eq_true] at w2 ⊢
      exact fun z hz => flat_toV (w2 z hz)
    · rw [flat_brep rx w1, flat_repL ra w2, inV_deq w1 w2]
      exact k_same s k (.bl _) w3
  | _ => cases d <;> exact w.elim
theorem d_in {K : Fr} : DOp2 K (rInA K) wIn := d_inD (fun x y H Q d ds a b c e f => .inl ⟨d, ds, a, b, c, e, f⟩) fun x y H Q h => .inr h
theorem d_notIn {K : Fr} : DOp2 K (rNotInA K) wNotIn := d_inD (fun x y H Q d ds a b c e f => .inl ⟨d, ds, a, b, c, e, f⟩) fun x y H Q h => .inr h
/-! ### is True -/
@[simp] def wBB (n : Bool) : W2
  | .bl a, .bl b, Φ => Φ (.bl (if n then !decide (a = b) else decide (a = b)))
  | _, _, _ => False
@[simp] def wIsB : W2 := wBB false
@[simp] def wNotB : W2 := wBB true
theorem o_isBl {K : Fr} {X : Cx} (_ : X.K = K) : OpR X (compareOp .Is) rIsB := op_isBl
theorem o_notBl {K : Fr} {X : Cx} (_ : X.K = K) : OpR X (compareOp .IsNot) rNotB := op_notBl
theorem d_isBl {K : Fr} : DOp2 K rIsB wIsB := by
  intro F H x y d e Q Φ s rx ry w k
  cases d with
  | bl a =>
    cases e with
    | bl b => rw [rx.bl, ry.bl]; exact ⟨a, b, rfl, rfl, k_same s k (.bl _) w⟩
    | _ => exact w.elim
  | _ => exact w.elim
theorem d_notBl {K : Fr} : DOp2 K rNotB wNotB := by
  intro F H x y d e Q Φ s rx ry w k
  cases d with
  | bl a =>
    cases e with
    | bl b => rw [rx.bl, ry.bl]; exact ⟨a, b, rfl, rfl, k_same s k (.bl _) w⟩
    | _ => exact w.elim
  | _ => exact w.elim
@[simp] def wAddI : W2 := wII (fun _ _ => True) fun i j => .int (i + j)
theorem d_addI {K : Fr} : DOp2 K (rI0 fun i j => .int (i + j)) wAddI := d_ii0 fun _ _ _ => .int _
theorem kit_list : ∀ d : D, kitB (tyN d) "list" = some (isiB "list" d) := fun d => by cases d <;> simp only [tyN, isiB] <;> decide +kernel
theorem kit_tuple : ∀ d : D, kitB (tyN d) "tuple" = some (isiB "tuple" d) := fun d => by cases d <;> simp only [tyN, isiB] <;> decide +kernel
theorem kit_bool : ∀ d : D, kitB (tyN d) "bool" = some (isiB "bool" d) := fun d => by cases d <;> simp only [tyN, isiB] <;> decide +kernel
theorem kit_int : ∀ d : D, kitB (tyN d) "int" = some (isiB "int" d) := fun d => by cases d <;> simp only [tyN, isiB] <;> decide +kernel
theorem kit_str : ∀ d : D, kitB (tyN d) "str" = some (isiB "str" d) := fun d => by cases d <;> simp only [tyN, isiB] <;> decide +kernel
section
variable {K : Fr} {X : Cx} {e a b : Expr} {t ta : TE} {f fa : WE} {th : TA} {h : WA} {pos p : Pos}
/-- not e, as a value, by truth -/
@[simp] def wNotT (f : WE) : WE := fun Γ Φ => f Γ fun d => truD d fun c => Φ (.bl (!c))
theorem de_notT (ha : DB K X a ta fa) : DE K X (.UnaryOp .Not a pos) (tNotT K ta) (wNotT fa) := by
  obtain rfl := ha.k
  refine ⟨rfl, pe_notT ha.p, fun B HB F Γ σ H Q Φ j w k => ha.s B HB F Γ σ H _ _ j w fun v d F' H' g r φ => ?_⟩
  obtain ⟨c, h1, h2⟩ := tru_of g.fh r φ
  exact ⟨c, h1, k _ _ F' H' g (.bl _) h2⟩
/-- xs[::-1] -/
@[simp] def wRev : W1
  | .lst xs, Φ => Φ (.lst xs.reverse)
  | _, _ => False
theorem df_rev {k : Nat} {p1 p2 p3 : Pos} (ha : DB K X a ta fa) : DF K X (.Subscript a (.Slice none none (some (.UnaryOp .USub (.Constant (.int 1) k p1) p2)) p3) pos) (tRevL K ta) (w1 wRev fa) := by
  obtain rfl := ha.k
  refine ⟨rfl, pe_revL ha.p, fun B HB F Γ σ H Q Φ j w k => ha.s B HB F Γ σ H _ _ j w fun v d F' H' g r φ => ?_⟩
  cases d with
  | lst xs =>
    obtain ⟨a, us, rfl, ea, ra⟩ := r.lst g.fh
    exact ⟨a, us, rfl, .of ea, fun p n => k p _ _ F' _ (g.trans (.newH g.fh n)) (g.fh.free n) (g.hh.free n) upd_same (.lst ra.reverse) φ⟩
  | _ => exact φ.elim
theorem di_zip {elts : List Expr} {kk : Nat} {tpos : Pos} (hm : X.mg "zip" = none) (ha : DA K X [a, b] th h) (hg : Gl X "zip" := by rfl)
    (hs : starEach [a, b] X.env = (false, eval a X.env) :: starEach [b] X.env := by rfl) (hpl : (backTo pos (starEach [b] X.env)).any (·.1) = false := by rfl) :
    DI K X (.Tuple elts kk tpos) (.Call (.Name "zip" p) [a, b] [] pos) (iZip K th) (wItZ h) := by
  obtain ⟨rfl, pt, q⟩ := ha
  refine ⟨rfl, pi_zip hg hm pt hs hpl, fun B HB F Γ σ H R Φ j w k => q B HB F Γ σ H _ _ j w fun vs ds F' H' g r φ => ?_⟩
  match ds, φ with
  | [.lst ds, .lst es], φ =>
    cases r with
    | cons r1 r2 =>
      cases r2 with
      | cons r2 r3 =>
        cases r3
        obtain ⟨a, vs, rfl, e, rl⟩ := r1.lst_inv
        obtain ⟨b, ws, rfl, e', rl'⟩ := r2.lst_inv
        exact ⟨a, b, vs, ws, rfl, .of (g.fh _ _ e), .of (g.fh _ _ e'), k _ _ F' H' g (wk_zip (.of e) rl (.of e') rl') φ⟩
/-- xs.append(ys.pop(e)), two names' own lists -/
@[simp] def sAppPop (i l : Nat) (fe : WE) : WS := fun Γ κ => ∃ xs ys, i ≠ l ∧ Γ[i]? = some (some (.own (.lst xs))) ∧ Γ[l]? = some (some (.own (.lst ys))) ∧ fe Γ fun kd => ∃ kk jj z, kd = .int kk ∧ -(2 ^ 63) ≤ kk ∧ kk < 2 ^ 63 ∧ seqIndex? kk ys.length = some jj ∧ ys[jj]? = some z ∧ xs.length < sizeLine ∧
  κ.nx ((Γ.set l (some (.own (.lst (ys.eraseIdx jj))))).set i (some (.own (.lst (xs ++ [z])))))
theorem apop_sound {fr : Bool} {i l : Nat} (he : SE K t f) : SS fr K (tDrop (tBM K "list" rAppend (tVar i) (tCons (tBM K "list" rPopAt (tVar l) (tCons t tNil)) tNil))) (sAppPop i l f) := by
  intro B HB F Γ σ H D κ j w k
  obtain ⟨xs, ys, nil', e1, e2, w⟩ := w
  obtain ⟨a, vs, ea, m1, m2, q, r⟩ := ownL j e1
  obtain ⟨b, us, eb, m3, m4, q', r'⟩ := ownL j e2
  refine ⟨_, ea, .inl ⟨rfl, _, .of q⟩, ?_⟩
  refine ⟨_, eb, .inl ⟨rfl, _, .of q'⟩, he B HB F Γ σ H _ _ j w fun z zd F1 H1 g1 r1 w1 => ?_⟩
  obtain ⟨kk, jj, z, rfl, b1, b2, hj, hz, hl, w1⟩ := w1
  rw [r1.int_inv]
  have j1 := j.grow g1
  obtain ⟨b', us', eb', _, _, q2, rl⟩ := ownL j1 e2
  rw [eb] at eb'
  cases eb'
  obtain ⟨v, hv, rv⟩ := rl.get hz
  refine ⟨b, us', kk, jj, v, rfl, rfl, q2, b1, b2, by rw [rl.length]; exact hj, hv, ?_⟩
  have j2 := j1.write e2 eb (.lst (rl.eraseIdx jj))
  have e1' : (Γ.set l (some (.own (.lst (ys.eraseIdx jj)))))[i]? = some (some (.own (.lst xs))) := by rw [List.getElem?_set_ne (Ne.symm nil')]; exact e1
  obtain ⟨a', vs', ea', _, _, q3, rl3⟩ := ownL j2 e1'
  rw [ea] at ea'
  cases ea'
  refine ⟨a, vs', v, rfl, rfl, q3, by rw [rl3.length]; exact hl, ?_⟩
  exact k.nx F1 _ σ _ (j2.write e1' ea (.lst (rl3.append (.cons rv .nil)))) w1
end
section
variable {K : Fr} {X : Cx} {fr : Bool} {e o : Expr} {es : List Expr} {te to : TE} {fe : WE} {pos p1 p2 p3 : Pos}
theorem app_pe {i : Nat} {t : TA} (hk : X.K = K) (he : PA X [e] t) (ho : PE X o to) (hbase : attributeBase o "append" X.env (eval o X.env) = eval o X.env)
    (hfew : ((backTo p3 (starEach [e] X.env)).all (fun x => !x.1) && (backToKw p3 (keywordEach [] X.env)).all (fun x => x.1.isSome)
      && decide ([e].length + ([] : List Keyword).length + (if ([] : List Keyword).isEmpty then 0 else 1) < 30)) = true)
    (hline : (p2.endLine == p3.line) = true) (hs : starEach [e] X.env = (false, eval e X.env) :: starEach [] X.env) :
    PE X (.Call (.Attribute o "append" p2) [e] [] p3) (tBM K "list" rAppend to t) := by
  cases hk
  exact pe_bm PySem.F.plainAttrs_list PySem.F.slot_list_append PySem.F.type_list_append mt_append ho he hbase hfew hline hs rfl
theorem ds_app (i : Nat) {x : Str} (he : DE K X e te fe) (hN : X.N[i]? = some x := by rfl) (hv : Vis X.env.scope x := by first | exact Or.inl rfl | exact Or.inr (Or.inl rfl) | exact Or.inr (Or.inr rfl)) (hd : (x == ("__debug__" : Str)) = false := by decide)
    (hcd : (x == ("__classdict__" : Str)) = false := by decide) (hbase : attributeBase (.Name x p1) "append" X.env (eval (.Name x p1) X.env) = eval (.Name x p1) X.env := by rfl)
    (hfew : ((backTo p3 (starEach [e] X.env)).all (fun x => !x.1) && (backToKw p3 (keywordEach [] X.env)).all (fun x => x.1.isSome)
      && decide ([e].length + ([] : List Keyword).length + (if ([] : List Keyword).isEmpty then 0 else 1) < 30)) = true := by rfl)
    (hline : (p2.endLine == p3.line) = true := by rfl) (hs : starEach [e] X.env = (false, eval e X.env) :: starEach [] X.env := by rfl) (hsw : swapsWith (.Call (.Attribute (.Name x p1) "append" p2) [e] [] p3) none pos.line X.env = pure false := by rfl) :
    DS fr K X (.Expr (.Call (.Attribute (.Name x p1) "append" p2) [e] [] p3) pos) (tDrop (tBM K "list" rAppend (tVar i) (tCons te tNil))) (sApp i fe) :=
  ⟨he.k, ps_expr (app_pe (i := i) he.k (pa_cons he.p pa_nil hs) (pe_var hN hv hd hcd) hbase hfew hline hs) hsw, app_sound he.s⟩
theorem ds_appPop (i l : Nat) {x y : Str} {q1 q2 q3 : Pos} (he : DE K X e te fe) (hN : X.N[i]? = some x := by rfl) (hv : Vis X.env.scope x := by first | exact Or.inl rfl | exact Or.inr (Or.inl rfl) | exact Or.inr (Or.inr rfl)) (hd : (x == ("__debug__" : Str)) = false := by decide)
    (hcd : (x == ("__classdict__" : Str)) = false := by decide) (hN' : X.N[l]? = some y := by rfl) (hv' : Vis X.env.scope y := by first | exact Or.inl rfl | exact Or.inr (Or.inl rfl) | exact Or.inr (Or.inr rfl)) (hd' : (y == ("__debug__" : Str)) = false := by decide)
    (hcd' : (y == ("__classdict__" : Str)) = false := by decide) (hbase : attributeBase (.Name x p1) "append" X.env (eval (.Name x p1) X.env) = eval (.Name x p1) X.env := by rfl)
    (hbase' : attributeBase (.Name y q1) "pop" X.env (eval (.Name y q1) X.env) = eval (.Name y q1) X.env := by rfl)
    (hfew : ((backTo p3 (starEach [.Call (.Attribute (.Name y q1) "pop" q2) [e] [] q3] X.env)).all (fun x => !x.1) && (backToKw p3 (keywordEach [] X.env)).all (fun x => x.1.isSome)
      && decide ([Expr.Call (.Attribute (.Name y q1) "pop" q2) [e] [] q3].length + ([] : List Keyword).length + (if ([] : List Keyword).isEmpty then 0 else 1) < 30)) = true := by rfl)
    (hfew' : ((backTo q3 (starEach [e] X.env)).all (fun x => !x.1) && (backToKw q3 (keywordEach [] X.env)).all (fun x => x.1.isSome)
      && decide ([e].length + ([] : List Keyword).length + (if ([] : List Keyword).isEmpty then 0 else 1) < 30)) = true := by rfl)
    (hline : (p2.endLine == p3.line) = true := by rfl) (hline' : (q2.endLine == q3.line) = true := by rfl) (hs' : starEach [e] X.env = (false, eval e X.env) :: starEach [] X.env := by rfl)
    (hs : starEach [.Call (.Attribute (.Name y q1) "pop" q2) [e] [] q3] X.env = (false, eval (.Call (.Attribute (.Name y q1) "pop" q2) [e] [] q3) X.env) :: starEach [] X.env := by rfl)
    (hsw : swapsWith (.Call (.Attribute (.Name x p1) "append" p2) [.Call (.Attribute (.Name y q1) "pop" q2) [e] [] q3] [] p3) none pos.line X.env = pure false := by rfl) :
    DS fr K X (.Expr (.Call (.Attribute (.Name x p1) "append" p2) [.Call (.Attribute (.Name y q1) "pop" q2) [e] [] q3] [] p3) pos) (tDrop (tBM K "list" rAppend (tVar i) (tCons (tBM K "list" rPopAt (tVar l) (tCons te tNil)) tNil))) (sAppPop i l fe) :=
  by
  obtain rfl := he.k
  exact ⟨rfl, ps_expr (app_pe (i := i) rfl (pa_cons (pe_bm PySem.F.plainAttrs_list PySem.F.slot_list_pop PySem.F.type_list_pop mt_popAt (pe_var hN' hv' hd' hcd') (pa_cons he.p pa_nil hs') hbase' hfew' hline' hs' rfl) pa_nil hs) (pe_var hN hv hd hcd) hbase hfew hline hs) hsw, apop_sound he.s⟩
end
end DL

set_option Elab.async false
set_option linter.all false
set_option maxRecDepth 100000
set_option maxHeartbeats 4000000
namespace DL
open PySem PySem.Spec PyProof.Rows L2

/-! ### loops over typed lists -/
theorem for_list' {α : Type} {g : WG} {f : WS} {κ : DK} (e : α → D) (I : Nat → GE → Prop) : ∀ (l : List α) (k : Nat) (Γ : GE), I k Γ →
    (∀ i a Γ (N : GE → Prop), l[i]? = some a → I (k + i) Γ → (∀ Γ', I (k + i + 1) Γ' → N Γ') → g (e a) Γ fun Γ1 => f Γ1 { κ with nx := N, ct := N, bk := κ.nx }) →
    (∀ Γ, I (k + l.length) Γ → κ.nx Γ) → forGo g f κ (l.map e) Γ
  | [], k, Γ, h0, hs, hd => hd Γ h0
  | a :: l, k, Γ, h0, hs, hd => by
    refine hs 0 a Γ _ rfl h0 fun Γ' h' => ?_
    refine for_list' e I l (k + 1) Γ' h' (fun i b Γ2 N e1 e2 e3 => ?_) (fun Γ2 h2 => hd Γ2 (by simpa [Nat.add_comm, Nat.add_left_comm, Nat.add_assoc] using h2))
    refine hs (i + 1) b Γ2 N (by simpa using e1) (by simpa [Nat.add_comm, Nat.add_left_comm, Nat.add_assoc] using e2) fun Γ3 h3 => e3 Γ3 (by simpa [Nat.add_comm, Nat.add_left_comm, Nat.add_assoc] using h3)
theorem for_list {α : Type} {g : WG} {f : WS} {κ : DK} (e : α → D) (I : Nat → GE → Prop) (l : List α) {Γ : GE} (h0 : I 0 Γ)
    (hs : ∀ i a Γ (N : GE → Prop), l[i]? = some a → I i Γ → (∀ Γ', I (i + 1) Γ' → N Γ') → g (e a) Γ fun Γ1 => f Γ1 { κ with nx := N, ct := N, bk := κ.nx }) (hd : ∀ Γ, I l.length Γ → κ.nx Γ) : forGo g f κ (l.map e) Γ :=
  for_list' e I l 0 Γ h0 (fun i a Γ N h1 h2 h3 => hs i a Γ N h1 (by simpa using h2) (by simpa using h3)) (by simpa using hd)
theorem for_rng {g : WG} {f : WS} {κ : DK} (lo : Int) (n : Nat) (I : Nat → GE → Prop) {Γ : GE} (h0 : I 0 Γ)
    (hs : ∀ i Γ (N : GE → Prop), i < n → I i Γ → (∀ Γ', I (i + 1) Γ' → N Γ') → g (.int (lo + i)) Γ fun Γ1 => f Γ1 { κ with nx := N, ct := N, bk := κ.nx }) (hd : ∀ Γ, I n Γ → κ.nx Γ) : forGo g f κ (rngD lo n) Γ := by
  refine for_list (fun (i : Nat) => D.int (lo + i)) I (List.range n) h0 (fun i a Γ N h1 h2 h3 => ?_) (by simpa using hd)
  have h1' : a = i ∧ i < n := by
    obtain ⟨hi, e⟩ := List.getElem?_eq_some_iff.mp h1
    simp at hi e
    exact ⟨e.symm, hi⟩
  obtain ⟨rfl, hi⟩ := h1'
  exact hs a Γ N hi h2 h3
/-- a turn of a comprehension -/
def elW (g : WG) (tt : WT) (te : WE) (Γ : GE) (d : D) (Ψ : Option D → Prop) : Prop := g d Γ fun Γ1 => tt Γ1 fun b => if b = true then te Γ1 fun y => Ψ (some y) else Ψ none
theorem lc_filterMap {α : Type} {g : WG} {tt : WT} {te : WE} {Γ : GE} {Φ : List D → Prop} (e : α → D) (f : α → Option D) : ∀ (l : List α) (acc : List D), (∀ a ∈ l, ∀ Ψ, Ψ (f a) → elW g tt te Γ (e a) Ψ) → acc.length + l.length ≤ sizeLine →
    Φ (acc ++ l.filterMap f) → lcGo g tt te Γ (l.map e) acc Φ
  | [], acc, _, _, h => by
    show Φ acc
    simpa using h
  | a :: l, acc, hs, hl, h => by
    refine hs a (by simp) (fun o => match o with | some y => acc.length < sizeLine ∧ lcGo g tt te Γ (l.map e) (acc ++ [y]) Φ | none => lcGo g tt te Γ (l.map e) acc Φ) ?_
    rw [List.length_cons] at hl
    cases q : f a with
    | none =>
      refine lc_filterMap e f l acc (fun b hb => hs b (by simp [hb])) (by omega) ?_
      simpa [q] using h
    | some y =>
      refine ⟨by omega, lc_filterMap e f l (acc ++ [y]) (fun b hb => hs b (by simp [hb])) (by simp; omega) ?_⟩
      simpa [q] using h
theorem lc_map {α : Type} {g : WG} {tt : WT} {te : WE} {Γ : GE} {Φ : List D → Prop} (e : α → D) (f : α → D) (l : List α) (hs : ∀ a ∈ l, ∀ Ψ, Ψ (some (f a)) → elW g tt te Γ (e a) Ψ) (hl : l.length ≤ sizeLine)
    (h : Φ (l.map f)) : lcGo g tt te Γ (l.map e) [] Φ := by
  refine lc_filterMap e (fun a => some (f a)) l [] hs (by simpa using hl) ?_
  rw [List.filterMap_eq_map']
  exact h
theorem lc_filter {α : Type} {g : WG} {tt : WT} {te : WE} {Γ : GE} {Φ : List D → Prop} (e : α → D) (p : α → Bool) (f : α → D) (l : List α) (hs : ∀ a ∈ l, ∀ Ψ, Ψ (if p a = true then some (f a) else none) → elW g tt te Γ (e a) Ψ) (hl : l.length ≤ sizeLine)
    (h : Φ ((l.filter p).map f)) : lcGo g tt te Γ (l.map e) [] Φ := by
  refine lc_filterMap e (fun a => if p a = true then some (f a) else none) l [] hs (by simpa using hl) ?_
  have : l.filterMap (fun a => if p a = true then some (f a) else none) = (l.filter p).map f := by
    clear hs hl h
    induction l with
    | nil => rfl
    | cons a r ih => by_cases q : p a = true <;> simp [q, ih]
  rw [this]
  exact h
theorem while_inv {c : WT} {f : WS} {κ : DK} (I : GE → Prop) (μ : GE → Nat) {Γ : GE} (h0 : I Γ)
    (hs : ∀ Γ (N : GE → Prop), I Γ → (∀ Γ', I Γ' → μ Γ' < μ Γ → N Γ') → c Γ fun b => if b = true then f Γ { κ with nx := N, ct := N, bk := κ.nx } else κ.nx Γ) : sWhile c f Γ κ := by
  have key : ∀ m Γ, I Γ → μ Γ ≤ m → whGo c f κ (m + 1) Γ := by
    intro m
    induction m with
    | zero => exact fun Γ h hm => hs Γ (whGo c f κ 0) h fun Γ' h' hl => by omega
    | succ m ih => exact fun Γ h hm => hs Γ (whGo c f κ (m + 1)) h fun Γ' h' hl => ih Γ' h' (by omega)
  exact ⟨_, key _ Γ h0 (Nat.le_refl _)⟩

/-- one statement, then the next: the names behind it are read off -/
theorem sq {f g : WS} {Γ : GE} {κ : DK} (Γ' : GE) (h1 : ∀ N : GE → Prop, N Γ' → f Γ { κ with nx := N }) (h2 : g Γ' κ) : sSeq f g Γ κ := h1 _ h2
theorem atI_ints {l : List Int} {i : Nat} (h : i < l.length) : atI (l.map D.int) (i : Int) = some (.int (l.getD i 0)) := by
  refine atI_nat ?_
  simp [List.getD, h]
theorem getD_mem {l : List Int} {i : Nat} {P : Int → Prop} (h : ∀ x ∈ l, P x) (hi : i < l.length) : P (l.getD i 0) := by
  have e : l.getD i 0 = l[i] := by simp [List.getD, hi]
  rw [e]; exact h _ (List.getElem_mem hi)

/-! ### equality -/
@[simp] theorem deq_int (i j : Int) : deq (.int i) (.int j) = decide (i = j) := by simp only [deq, py, PyData.eqv]; exact Bool.beq_eq_decide_eq i j
@[simp] theorem deq_bl (i j : Bool) : deq (.bl i) (.bl j) = decide (i = j) := by simp only [deq, py, PyData.eqv]; exact Bool.beq_eq_decide_eq i j
@[simp] theorem deq_str (i j : Str) : deq (.str i) (.str j) = decide (i = j) := by simp only [deq, py, PyData.eqv]; exact Bool.beq_eq_decide_eq i j
@[simp] theorem deq_non : deq .non .non = true := by simp only [deq, py, PyData.eqv]
@[simp] theorem deq_int_non (i : Int) : deq (.int i) .non = false := by simp only [deq, py, PyData.eqv]
@[simp] theorem deq_non_int (i : Int) : deq .non (.int i) = false := by simp only [deq, py, PyData.eqv]
def deqL (xs ys : List D) : Bool := PyData.eqvAll (pys xs) (pys ys)
@[simp] theorem deq_lst (xs ys : List D) : deq (.lst xs) (.lst ys) = deqL xs ys := by simp only [deq, deqL, py, PyData.eqv]
@[simp] theorem deq_tup (xs ys : List D) : deq (.tup xs) (.tup ys) = deqL xs ys := by simp only [deq, deqL, py, PyData.eqv]
@[simp] theorem deqL_nil : deqL [] [] = true := by simp only [deqL, pys, PyData.eqvAll]
@[simp] theorem deqL_nc (y : D) (ys : List D) : deqL [] (y :: ys) = false := by simp only [deqL, pys, PyData.eqvAll]
@[simp] theorem deqL_cn (x : D) (xs : List D) : deqL (x :: xs) [] = false := by simp only [deqL, pys, PyData.eqvAll]
@[simp] theorem deqL_cons (x y : D) (xs ys : List D) : deqL (x :: xs) (y :: ys) = (deq x y && deqL xs ys) := by simp only [deqL, deq, pys, PyData.eqvAll]
/-- == of lists whose items it tells apart -/
theorem deqL_map {α : Type} [DecidableEq α] {e : α → D} (h : ∀ a b, deq (e a) (e b) = decide (a = b)) : ∀ (l m : List α), deqL (l.map e) (m.map e) = decide (l = m)
  | [], [] => by simp
  | [], _ :: _ => by simp
  | _ :: _, [] => by simp
  | a :: l, b :: m => by
    rw [List.map_cons, List.map_cons, deqL_cons, h, deqL_map h l m]
    simp [Bool.decide_and]
@[simp] theorem deqL_ints (l m : List Int) : deqL (l.map .int) (m.map .int) = decide (l = m) := deqL_map deq_int l m
@[simp] theorem shp_ints (n : Nat) (l : List Int) : shp (n + 1) (.lst (l.map .int)) = true := by simp [shp]
/-- two equal data -/
theorem deq_refl {d : D} (h : shp 9 d = true) : deq d d = true := SeqAt.eqv_refl _ (SeqAt.canLay_of_shaped (shp_shaped h))

/-! ### the draws of a law -/
def law_cellN (ns : List Int) (k : Nat) : Int := (ns[k]?).getD 0
def sp_law_cell : List D → D → Prop := fun ds d => ∃ (ns : List Int) (k : Nat), ds = [.scr ns, .int k] ∧ d = .int (law_cellN ns k)
theorem sp_law_cell_len : ∀ (ds : List D) (d : D), sp_law_cell ds d → ds.length = 2 := by
  rintro _ _ ⟨ns, k, rfl, _⟩; rfl
def sem_law_cell : WS :=
  (sSeq (sIf (wTest (w2 wLt (wVar 1) (wCall wLen (wCons (wVar 0) wNil))))
  (sRet (wCall wInt (wCons (w2 wIx (wVar 0) (wVar 1)) wNil)))
  sNext)
  (sRet (wC (.int 0))))
theorem hf_law_cell : ∀ (ds : List D) (d : D), sp_law_cell ds d → sem_law_cell (startG 2 ds) { nx := fun _ => false = false ∧ d = .non, rt := fun z => z = d } := by
  rintro _ _ ⟨ns, k, rfl, rfl⟩
  simp [sem_law_cell, startG, law_cellN]
  by_cases h : k < ns.length
  · exact .inr ⟨h, atI_nat (by simp [h])⟩
  · refine .inl ⟨by omega, ?_⟩
    rw [List.getElem?_eq_none (by omega)]; rfl
/-- the digits of a great cell -/
def bigL (limit : Int) : Nat → Int → List Int
  | 0, _ => []
  | n + 1, c => c % limit :: bigL limit n (c / limit)
def mix1 (cell : Int) (k : Nat) : Int := (cell * 48271 + k * 69621 + 7) % 2147483647
def mix2 (m : Int) (k : Nat) : Int := (m * m + m * 40692 + k * 16807 + 11) % 2147483399
def mixN (cell limit : Int) (k : Nat) : Int := (mix2 (mix1 cell k) k / 32) % limit
def numsL (cell : Int) (n : Nat) (limit : Int) : List Int := if 10 ^ 18 ≤ cell then bigL limit n cell else (List.range n).map (mixN cell limit)
theorem bigL_len (l : Int) : ∀ n c, (bigL l n c).length = n
  | 0, _ => rfl
  | n + 1, c => by simp [bigL, bigL_len l n]
theorem numsL_len (cell limit : Int) (n : Nat) : (numsL cell n limit).length = n := by
  unfold numsL; split
  · exact bigL_len _ _ _
  · simp
theorem bigL_mem {l : Int} (h : 0 < l) : ∀ n c, ∀ x ∈ bigL l n c, 0 ≤ x ∧ x < l
  | 0, _, x, hx => by simp [bigL] at hx
  | n + 1, c, x, hx => by
    rcases List.mem_cons.mp hx with rfl | hx
    · exact ⟨Int.emod_nonneg _ (by omega), Int.emod_lt_of_pos _ h⟩
    · exact bigL_mem h n _ x hx
theorem numsL_mem {l : Int} (h : 0 < l) (n : Nat) (c : Int) : ∀ x ∈ numsL c n l, 0 ≤ x ∧ x < l := by
  unfold numsL; split
  · exact bigL_mem h n c
  · intro x hx
    obtain ⟨k, _, rfl⟩ := List.mem_map.mp hx
    exact ⟨Int.emod_nonneg _ (by omega), Int.emod_lt_of_pos _ h⟩
def sp_law_numbers : List D → D → Prop := fun ds d => ∃ (cell limit : Int) (n : Nat), n ≤ 1000000 ∧ 0 < limit ∧ limit < 2 ^ 250 ∧ ds = [.int cell, .int n, .int limit] ∧ d = .lst ((numsL cell n limit).map .int)
theorem sp_law_numbers_len : ∀ (ds : List D) (d : D), sp_law_numbers ds d → ds.length = 3 := by
  rintro _ _ ⟨_, _, _, _, _, _, rfl, _⟩; rfl
def sem_law_numbers : WS :=
  (sSeq (sOwn 3 (wLst wNil))
  (sSeq (sIf (wTest (w2 wGe (wVar 0) (w2 wPow (wC (.int 10)) (wC (.int 18)))))
  (sSeq (sFor (wItR1 (wCons (wVar 1) wNil)) (gSet 4)
  (sSeq (sApp 3 (w2 wMod (wCall wInt (wCons (wVar 0) wNil)) (wVar 2)))
  (sSet 0 (w2 wDiv (wCall wInt (wCons (wVar 0) wNil)) (wVar 2)))))
  (sRetV 3))
  sNext)
  (sSeq (sFor (wItR1 (wCons (wVar 1) wNil)) (gSet 4)
  (sSeq (sSet 5 (w2 wMod (wCall wInt (wCons (w2 wAdd (w2 wAdd (w2 wMul (wVar 0) (wC (.int 48271))) (w2 wMul (wVar 4) (wC (.int 69621)))) (wC (.int 7))) wNil)) (wC (.int 2147483647))))
  (sSeq (sSet 5 (w2 wMod (wCall wInt (wCons (w2 wAdd (w2 wAdd (w2 wAdd (w2 wMul (wVar 5) (wVar 5)) (w2 wMul (wVar 5) (wC (.int 40692)))) (w2 wMul (wVar 4) (wC (.int 16807)))) (wC (.int 11))) wNil)) (wC (.int 2147483399))))
  (sApp 3 (w2 wMod (wCall wInt (wCons (w2 wDiv (wVar 5) (wC (.int 32))) wNil)) (wVar 2))))))
  (sRetV 3))))
theorem line_le {n : Nat} (h : n ≤ 1000000) : n < sizeLine := by rw [sizeLine_eq]; omega
theorem hf_law_numbers : ∀ (ds : List D) (d : D), sp_law_numbers ds d → sem_law_numbers (startG 6 ds) { nx := fun _ => false = false ∧ d = .non, rt := fun z => z = d } := by
  rintro _ _ ⟨cell, limit, n, hn, hl, hl2, rfl, rfl⟩
  simp [sem_law_numbers, startG, CPow, List.replicate]
  by_cases hc : 10 ^ 18 ≤ cell
  · refine .inr ⟨by omega, by omega, for_rng 0 n (fun i Γ => ∃ (c : Int) (l : List Int) (x : Option Sl), Γ = [some (.val (.int c)), some (.val (.int n)), some (.val (.int limit)), some (.own (.lst (l.map .int))), x, none] ∧ l.length = i ∧ l ++ bigL limit (n - i) c = bigL limit n cell)
      ⟨cell, [], none, rfl, rfl, rfl⟩ ?_ ?_⟩
    · rintro i Γ N hi ⟨c, l, x, rfl, hlen, he⟩ hN
      have := line_le hn
      simp [divOk, hl, hl2]
      refine ⟨by omega, by omega, hN _ ⟨c / limit, l ++ [c % limit], some (.val (.int i)), by simp, by simp [hlen], ?_⟩⟩
      have e : n - i = (n - (i + 1)) + 1 := by omega
      rw [e] at he
      rw [← he]
      simp [bigL]
    · rintro Γ ⟨c, l, x, rfl, hlen, he⟩
      have hc' : (1000000000000000000 : Int) ≤ cell := by omega
      simp [numsL, hc']
      have : l = bigL limit n cell := by rw [← he]; simp [bigL]
      rw [this]
  · refine .inl ⟨by omega, by omega, for_rng 0 n (fun i Γ => ∃ (x y : Option Sl), Γ = [some (.val (.int cell)), some (.val (.int n)), some (.val (.int limit)), some (.own (.lst (((List.range i).map (mixN cell limit)).map .int))), x, y])
      ⟨none, none, rfl⟩ ?_ ?_⟩
    · rintro i Γ N hi ⟨x, y, rfl⟩ hN
      have := line_le hn
      have h1 : 0 ≤ mix1 cell i ∧ mix1 cell i < 2147483647 := ⟨Int.emod_nonneg _ (by omega), Int.emod_lt_of_pos _ (by omega)⟩
      unfold mix1 at h1
      simp [divOk, hl, hl2, mulOk, CMul]
      refine ⟨.inl (by omega), by omega, hN _ ⟨some (.val (.int i)), some (.val (.int (mix2 (mix1 cell i) i))), ?_⟩⟩
      simp [List.range_succ, mixN, mix1, mix2]
    · rintro Γ ⟨x, y, rfl⟩
      have hc' : ¬ (1000000000000000000 : Int) ≤ cell := by omega
      simp [numsL, hc']
def drawsL (ns : List Int) (k n : Nat) : List Int := numsL (law_cellN ns k + 101 * k) n 5040
def sp_law_draws : List D → D → Prop := fun ds d => ∃ (ns : List Int) (k n : Nat), n ≤ 1000000 ∧ ds = [.scr ns, .int k, .int n] ∧ d = .lst ((drawsL ns k n).map .int)
theorem sp_law_draws_len : ∀ (ds : List D) (d : D), sp_law_draws ds d → ds.length = 3 := by
  rintro _ _ ⟨_, _, _, _, rfl, _⟩; rfl
def sem_law_draws : WS :=
  (sRet (wFn sp_law_numbers (wCons (w2 wAdd (wFn sp_law_cell (wCons (wVar 0) (wCons (wVar 1) wNil))) (w2 wMul (wC (.int 101)) (wVar 1))) (wCons (wVar 2) (wCons (wC (.int 5040)) wNil)))))
theorem hf_law_draws : ∀ (ds : List D) (d : D), sp_law_draws ds d → sem_law_draws (startG 3 ds) { nx := fun _ => false = false ∧ d = .non, rt := fun z => z = d } := by
  rintro _ _ ⟨ns, k, n, hn, rfl, rfl⟩
  simp [sem_law_draws, startG, List.replicate]
  refine ⟨.int (law_cellN ns k), ⟨ns, k, rfl, rfl⟩, ?_⟩
  simp [mulOk, CMul]
  exact ⟨_, 5040, n, hn, by omega, by omega, rfl, rfl⟩
theorem drawsL_len (ns : List Int) (k n : Nat) : (drawsL ns k n).length = n := numsL_len _ _ _
theorem drawsL_mem (ns : List Int) (k n : Nat) : ∀ x ∈ drawsL ns k n, 0 ≤ x ∧ x < 5040 := numsL_mem (by omega) _ _
/-! ### _law_same, of two equal data -/
/-- data of at most n levels, lists of at most a million items, no dicts -/
def sm : Nat → D → Bool
  | _, .non => true | _, .bl _ => true | _, .int _ => true | _, .str x => PyData.strOk x
  | n + 1, .lst xs => decide (xs.length ≤ 1000000) && xs.all (sm n) | n + 1, .tup xs => decide (xs.length ≤ 1000000) && xs.all (sm n)
  | _, _ => false
@[simp] theorem sm_int (n : Nat) (i : Int) : sm n (.int i) = true := by cases n <;> rfl
@[simp] theorem sm_bl (n : Nat) (i : Bool) : sm n (.bl i) = true := by cases n <;> rfl
@[simp] theorem sm_non (n : Nat) : sm n .non = true := by cases n <;> rfl
@[simp] theorem sm_str (n : Nat) (x : Str) : sm n (.str x) = PyData.strOk x := by cases n <;> rfl
@[simp] theorem sm_lst (n : Nat) (xs : List D) : sm (n + 1) (.lst xs) = (decide (xs.length ≤ 1000000) && xs.all (sm n)) := rfl
@[simp] theorem sm_tup (n : Nat) (xs : List D) : sm (n + 1) (.tup xs) = (decide (xs.length ≤ 1000000) && xs.all (sm n)) := rfl
def sp_law_same_n (n : Nat) : List D → D → Prop := fun ds r => ∃ d, sm n d = true ∧ ds = [d, d] ∧ r = .bl true
abbrev sp_law_same : List D → D → Prop := sp_law_same_n 8
theorem sp_law_same_len {n : Nat} : ∀ (ds : List D) (d : D), sp_law_same_n n ds d → ds.length = 2 := by
  rintro _ _ ⟨_, _, rfl, _⟩; rfl
def sem_law_same (sp : List D → D → Prop) : WS :=
  (sSeq (sIf (wTru (w1 (wIsi "list") (wVar 1)))
  (sIf (wOr (wNot (wTru (w1 (wIsi "list") (wVar 0)))) (wTest (w2 wNe (wCall wLen (wCons (wVar 0) wNil)) (wCall wLen (wCons (wVar 1) wNil)))))
  (sRet (wC (.bl false)))
  sNext)
  (sIf (wTru (w1 (wIsi "tuple") (wVar 1)))
  (sIf (wOr (wNot (wTru (w1 (wIsi "tuple") (wVar 0)))) (wTest (w2 wNe (wCall wLen (wCons (wVar 0) wNil)) (wCall wLen (wCons (wVar 1) wNil)))))
  (sRet (wC (.bl false)))
  sNext)
  (sIf (wTest (w1 (wIsN false) (wVar 1)))
  (sRet (w1 (wIsN false) (wVar 0)))
  (sIf (wTru (w1 (wIsi "bool") (wVar 1)))
  (sRet (wAndV (w1 (wIsi "bool") (wVar 0)) (w2 wEq (wVar 0) (wVar 1))))
  (sIf (wTru (w1 (wIsi "int") (wVar 1)))
  (sRet (wAndV (w1 (wIsi "int") (wVar 0)) (wAndV (wNotT (w1 (wIsi "bool") (wVar 0))) (w2 wEq (wVar 0) (wVar 1)))))
  (sRet (wAndV (w1 (wIsi "str") (wVar 0)) (w2 wEq (wVar 0) (wVar 1)))))))))
  (sSeq (sFor (wItR1 (wCons (wCall wLen (wCons (wVar 1) wNil)) wNil)) (gSet 2)
  (sIf (wNot (wTru (wFn sp (wCons (w2 wIx (wVar 0) (wVar 2)) (wCons (w2 wIx (wVar 1) (wVar 2)) wNil)))))
  (sRet (wC (.bl false)))
  sNext))
  (sRet (wC (.bl true)))))
@[simp] theorem shp_int (n : Nat) (i : Int) : shp n (.int i) = true := by cases n <;> rfl
@[simp] theorem shp_bl (n : Nat) (i : Bool) : shp n (.bl i) = true := by cases n <;> rfl
@[simp] theorem shp_non (n : Nat) : shp n .non = true := by cases n <;> rfl
@[simp] theorem shp_str (n : Nat) (x : Str) : shp n (.str x) = PyData.strOk x := by cases n <;> rfl
@[simp] theorem shp_lst (n : Nat) (xs : List D) : shp (n + 1) (.lst xs) = xs.all (shp n) := rfl
@[simp] theorem shp_tup (n : Nat) (xs : List D) : shp (n + 1) (.tup xs) = xs.all (shp n) := rfl
theorem same_loop {sp : List D → D → Prop} {xs : List D} {t : D} (hx : ∀ x ∈ xs, sp [x, x] (.bl true)) (ht : t = .lst xs ∨ t = .tup xs) (hl : xs.length < 2 ^ 62) {Γ : GE} (h : Γ = [some (.val t), some (.val t), none]) {κ : DK} (hn : ∀ x, κ.nx [some (.val t), some (.val t), x]) :
    forGo (gSet 2) (sIf (wNot (wTru (wFn sp (wCons (w2 wIx (wVar 0) (wVar 2)) (wCons (w2 wIx (wVar 1) (wVar 2)) wNil))))) (sRet (wC (.bl false))) sNext) κ (rngD 0 xs.length) Γ := by
  subst h
  refine for_rng 0 xs.length (fun i Γ => ∃ x : Option Sl, Γ = [some (.val t), some (.val t), x]) ⟨none, rfl⟩ ?_ ?_
  · rintro i Γ N hi ⟨x, rfl⟩ hN
    have ha : atI xs (i : Int) = some xs[i] := atI_nat (List.getElem?_eq_getElem hi)
    have hs := hx xs[i] (List.getElem_mem hi)
    rcases ht with rfl | rfl <;> (simp [ha]; exact ⟨.bl true, hs, hN _ ⟨_, rfl⟩⟩)
  · rintro Γ ⟨x, rfl⟩
    exact hn x
theorem hf_law_same : ∀ (n : Nat) (ds : List D) (d : D), sp_law_same_n n ds d → sem_law_same (match n with | 0 => fun _ _ => False | n + 1 => sp_law_same_n n) (startG 3 ds) { nx := fun _ => false = false ∧ d = .non, rt := fun z => z = d } := by
  rintro n _ _ ⟨d, hd, rfl, rfl⟩
  cases d with
  | lst xs =>
    cases n with
    | zero => simp [sm] at hd
    | succ n =>
      simp at hd
      simp [sem_law_same, startG, List.replicate]
      refine ⟨by omega, same_loop (fun x hx => ⟨x, hd.2 x hx, rfl, rfl⟩) (.inl rfl) (by omega) rfl fun x => by simp⟩
  | tup xs =>
    cases n with
    | zero => simp [sm] at hd
    | succ n =>
      simp at hd
      simp [sem_law_same, startG, List.replicate]
      refine ⟨by omega, same_loop (fun x hx => ⟨x, hd.2 x hx, rfl, rfl⟩) (.inr rfl) (by omega) rfl fun x => by simp⟩
  | scr xs => cases n <;> simp [sm] at hd
  | dK xs => cases n <;> simp [sm] at hd
  | dT xs => cases n <;> simp [sm] at hd
  | str x => simp at hd; simp [sem_law_same, startG, List.replicate, hd]
  | _ => simp [sem_law_same, startG, List.replicate]
end DL

set_option Elab.async false
set_option linter.all false
set_option maxRecDepth 100000
set_option maxHeartbeats 4000000
namespace DL
open PySem PySem.Spec PyProof.Rows L2
/-! ### what the sides pay -/
/-- the shares up to a place -/
def pre (s : List Int) (k : Nat) : Int := (s.take k).sum
theorem pre_zero (s : List Int) : pre s 0 = 0 := rfl
theorem pre_all (s : List Int) : pre s s.length = s.sum := by simp [pre]
theorem pre_succ {s : List Int} {k : Nat} {x : Int} (h : s[k]? = some x) : pre s (k + 1) = pre s k + x := by
  simp [pre, List.take_add_one, h]
def cum (c : Int) (s : List Int) (k : Nat) : Int := c * pre s k / s.sum
def dueL (c : Int) (s : List Int) : List Int := (List.range s.length).map fun k => cum c s (k + 1) - cum c s k
theorem dueL_len (c : Int) (s : List Int) : (dueL c s).length = s.length := by simp [dueL]
/-- costs and shares as the law has them -/
structure Fit (c : Int) (s : List Int) : Prop where
  c0 : 0 ≤ c
  c1 : c ≤ 1000000000
  len : s.length ≤ 1000
  pos : 0 < s.sum
  lim : s.sum < 2 ^ 60
def sp_parts_of : List D → D → Prop := fun ds d => ∃ c s, Fit c s ∧ ds = [.int c, .lst (s.map .int)] ∧ d = .lst ((dueL c s).map .int)
theorem sp_parts_of_len : ∀ (ds : List D) (d : D), sp_parts_of ds d → ds.length = 2 := by
  rintro _ _ ⟨_, _, _, rfl, _⟩; rfl
def sem_parts_of : WS :=
  (sSeq (sSet 2 (wCall wSum (wCons (wVar 1) wNil)))
  (sSeq (sOwn 3 (wLst wNil))
  (sSeq (sSet 4 (wC (.int 0)))
  (sSeq (sSet 5 (wC (.int 0)))
  (sSeq (sFor (wItL (wVar 1)) (gSet 6)
  (sSeq (sAug 4 wAddI (wVar 6))
  (sSeq (sSet 7 (w2 wDiv (w2 wMul (wVar 0) (wVar 4)) (wVar 2)))
  (sSeq (sApp 3 (w2 wSub (wVar 7) (wVar 5)))
  (sSet 5 (wVar 7))))))
  (sRetV 3))))))
theorem hf_parts_of : ∀ (ds : List D) (d : D), sp_parts_of ds d → sem_parts_of (startG 8 ds) { nx := fun _ => false = false ∧ d = .non, rt := fun z => z = d } := by
  rintro _ _ ⟨c, s, h, rfl, rfl⟩
  obtain ⟨h0, h1, h2, h3, h4⟩ := h
  simp [sem_parts_of, startG, List.replicate]
  refine for_list D.int (fun i Γ => ∃ x y : Option Sl, Γ = [some (.val (.int c)), some (.val (.lst (s.map .int))), some (.val (.int s.sum)), some (.own (.lst (((List.range i).map fun k => cum c s (k + 1) - cum c s k).map .int))), some (.val (.int (pre s i))), some (.val (.int (cum c s i))), x, y]) s
    ⟨none, none, by simp [pre, cum]⟩ ?_ ?_
  · rintro i a Γ N ha ⟨x, y, rfl⟩ hN
    have hi : i < s.length := (List.getElem?_eq_some_iff.mp ha).1
    have hl := line_le (show i ≤ 1000000 by omega)
    simp [divOk, mulOk, CMul]
    refine ⟨.inl (.inl (by omega)), by omega, hl, hN _ ⟨some (.val (.int a)), some (.val (.int (cum c s (i + 1)))), ?_⟩⟩
    simp [List.range_succ, cum, pre_succ ha]
  · rintro Γ ⟨x, y, rfl⟩
    simp [dueL]
/-! ### instalments -/
def coinsL (c : Int) (n : Nat) : List Int := (List.range n).map fun (k : Nat) => c / n + (if (k : Int) < c % n then 1 else 0)
def sp_instalments : List D → D → Prop := fun ds d => ∃ (c : Int) (n : Nat), 0 ≤ c ∧ 0 < n ∧ n ≤ 1000 ∧ ds = [.int c, .int n] ∧ d = .lst ((coinsL c n).map .int)
theorem sp_instalments_len : ∀ (ds : List D) (d : D), sp_instalments ds d → ds.length = 2 := by
  rintro _ _ ⟨_, _, _, _, _, rfl, _⟩; rfl
def sem_instalments : WS :=
  (sSeq (sAsg (wCall wDivmod (wCons (wVar 0) (wCons (wVar 1) wNil))) (gTupD 2 (gsCons (gSet 2) (gsCons (gSet 3) gsNil))))
  (sRet (wLc (wItR1 (wCons (wVar 1) wNil)) (gSet 4) wYes (w2 wAdd (wVar 2) (wCall wInt (wCons (w2 wLt (wVar 4) (wVar 3)) wNil))) [4])))
theorem hf_instalments : ∀ (ds : List D) (d : D), sp_instalments ds d → sem_instalments (startG 5 ds) { nx := fun _ => false = false ∧ d = .non, rt := fun z => z = d } := by
  rintro _ _ ⟨c, n, h0, h1, h2, rfl, rfl⟩
  simp [sem_instalments, startG, List.replicate, CDiv, wLc]
  refine ⟨by omega, by omega, lc_map (fun (i : Nat) => D.int (0 + i)) (fun (i : Nat) => D.int (c / n + (if (i : Int) < c % n then 1 else 0))) (List.range n) (fun i hi Ψ hΨ => ?_) ?_ ?_⟩
  · simp [elW]
    by_cases hc : (i : Int) < c % n <;> simpa [hc] using hΨ
  · have := line_le (show n ≤ 1000000 by omega); simp; omega
  · simp [coinsL]
/-! ### what is due, worked out -/
def sp_law_due : List D → D → Prop := sp_parts_of
theorem sp_law_due_len : ∀ (ds : List D) (d : D), sp_law_due ds d → ds.length = 2 := sp_parts_of_len
def sem_law_due : WS :=
  (sSeq (sSet 2 (wCall wSum (wCons (wVar 1) wNil)))
  (sSeq (sSet 3 (wLc (wItR1 (wCons (w2 wAdd (wCall wLen (wCons (wVar 1) wNil)) (wC (.int 1))) wNil)) (gSet 4) wYes (w2 wDiv (w2 wMul (wVar 0) (wCall wSum (wCons (wSl slL (wVar 1) (wPart (wC (.int 0))) (wPart (wVar 4))) wNil))) (wVar 2)) [4]))
  (sRet (wLc (wItR1 (wCons (wCall wLen (wCons (wVar 1) wNil)) wNil)) (gSet 4) wYes (w2 wSub (w2 wIx (wVar 3) (w2 wAdd (wVar 4) (wC (.int 1)))) (w2 wIx (wVar 3) (wVar 4))) [4]))))
/-- slices by natural places -/
theorem cutD_nat {α : Type} (f : α → D) (l : List α) (a b : Nat) : cutD (l.map f) (some (a : Int)) (some (b : Int)) = ((l.drop a).take (b - a)).map f := by
  unfold cutD
  rw [HT.sIx_nat, HT.sIx_nat, List.length_map]
  apply List.ext_getElem?
  intro i
  simp only [List.getElem?_take, List.getElem?_drop, List.getElem?_map]
  by_cases h1 : a + i < l.length
  · rw [Nat.min_eq_left (show a ≤ l.length by omega)]
    by_cases h2 : i < b - a
    · rw [if_pos h2, if_pos (by omega)]
    · rw [if_neg h2, if_neg (by omega)]; rfl
  · have e1 : l[a + i]? = none := List.getElem?_eq_none (by omega)
    have e2 : l[min a l.length + i]? = none ∨ ¬ i < min b l.length - min a l.length := by
      by_cases h3 : a ≤ l.length
      · left; rw [Nat.min_eq_left h3]; exact e1
      · right; omega
    rcases e2 with e2 | e2
    · rw [e1, e2]; simp
    · rw [if_neg e2, e1]; simp
theorem atI_range {α : Type} {f : Nat → α} {n i : Nat} (h : i < n) : atI ((List.range n).map f) (i : Int) = some (f i) := atI_nat (by simp [h])
theorem hf_law_due : ∀ (ds : List D) (d : D), sp_law_due ds d → sem_law_due (startG 5 ds) { nx := fun _ => false = false ∧ d = .non, rt := fun z => z = d } := by
  rintro _ _ ⟨c, s, h, rfl, rfl⟩
  obtain ⟨h0, h1, h2, h3, h4⟩ := h
  have hl := line_le (show s.length + 1 ≤ 1000000 by omega)
  simp [sem_law_due, startG, List.replicate, wLc]
  refine ⟨by omega, by omega, ?_⟩
  refine lc_map (fun (i : Nat) => D.int (0 + i)) (fun i => D.int (cum c s i)) (List.range (s.length + 1)) (fun i hi Ψ hΨ => ?_) (by simp; omega) ?_
  · simp [elW, divOk, mulOk, CMul]
    have := cutD_nat D.int s 0 i
    simp at this
    rw [this, ← List.map_take]
    exact ⟨_, ints_map _, .inl (.inl (by omega)), ⟨by omega, by omega⟩, hΨ⟩
  · refine ⟨by omega, lc_map (fun (i : Nat) => D.int (0 + i)) (fun (i : Nat) => D.int (cum c s (i + 1) - cum c s i)) (List.range s.length) (fun i hi Ψ hΨ => ?_) (by simp; omega) (by simp [dueL])⟩
    have hi' : i < s.length := List.mem_range.mp hi
    have a1 := atI_range (f := fun i => D.int (cum c s i)) (show i < s.length + 1 by omega)
    have a2 : atI ((List.range (s.length + 1)).map fun i => D.int (cum c s i)) ((i : Int) + 1) = some (D.int (cum c s (i + 1))) := atI_range (f := fun i => D.int (cum c s i)) (show i + 1 < s.length + 1 by omega)
    simp [elW, a1, a2]
    exact hΨ
/-! ### groups that follow one another -/
def pairD (p : Nat × Nat) : D := .tup [.int (p.1 : Int), .int (p.2 : Int)]
/-- the groups from a start, by the draws -/
def grpGo (draws : List Int) : Nat → Nat → Nat → List (Nat × Nat)
  | 0, st, k => [(st, k)]
  | m + 1, st, k => if st < k ∧ (draws.getD k 0) % 3 = 0 then (st, k) :: grpGo draws m k (k + 1) else grpGo draws m st (k + 1)
def grps (draws : List Int) (n : Nat) : List (Nat × Nat) := grpGo draws n 0 0
def sp_law_groups : List D → D → Prop := fun ds d => ∃ (n : Nat) (l : List Int), n ≤ 1000 ∧ n ≤ l.length ∧ ds = [.int n, .lst (l.map .int)] ∧ d = .lst ((grps l n).map pairD)
theorem sp_law_groups_len : ∀ (ds : List D) (d : D), sp_law_groups ds d → ds.length = 2 := by
  rintro _ _ ⟨_, _, _, _, rfl, _⟩; rfl
def sem_law_groups : WS :=
  (sSeq (sOwn 2 (wLst wNil))
  (sSeq (sSet 3 (wC (.int 0)))
  (sSeq (sFor (wItR1 (wCons (wVar 0) wNil)) (gSet 4)
  (sIf (wAnd (wTest (w2 wGt (wVar 4) (wVar 3))) (wTest (w2 wEq (w2 wMod (w2 wIx (wVar 1) (wVar 4)) (wC (.int 3))) (wC (.int 0)))))
  (sSeq (sApp 2 (wTup (wCons (wVar 3) (wCons (wVar 4) wNil))))
  (sSet 3 (wVar 4)))
  sNext))
  (sFrz 2 (sRet (w2 wAdd (wVar 2) (wLst (wCons (wTup (wCons (wVar 3) (wCons (wVar 0) wNil))) wNil))))))))
theorem hf_law_groups : ∀ (ds : List D) (d : D), sp_law_groups ds d → sem_law_groups (startG 5 ds) { nx := fun _ => false = false ∧ d = .non, rt := fun z => z = d } := by
  rintro _ _ ⟨n, l, h1, h2, rfl, rfl⟩
  have hln := line_le (show n + 2 ≤ 1000000 by omega)
  simp [sem_law_groups, startG, List.replicate]
  refine ⟨by omega, for_rng 0 n (fun i Γ => ∃ (st : Nat) (gs : List (Nat × Nat)) (x : Option Sl), Γ = [some (.val (.int n)), some (.val (.lst (l.map .int))), some (.own (.lst (gs.map pairD))), some (.val (.int st)), x] ∧ gs.length ≤ i ∧ gs ++ grpGo l (n - i) st i = grps l n)
    ⟨0, [], none, by simp, by simp, by simp [grps]⟩ ?_ ?_⟩
  · rintro i Γ N hi ⟨st, gs, x, rfl, hl, he⟩ hN
    have ha : atI (l.map D.int) (i : Int) = some (.int (l.getD i 0)) := by
      refine atI_nat ?_
      rw [List.getElem?_map, List.getElem?_eq_getElem (show i < l.length by omega)]
      simp [List.getD, List.getElem?_eq_getElem (show i < l.length by omega)]
    have e : n - i = (n - (i + 1)) + 1 := by omega
    rw [e] at he
    simp [ha]
    by_cases c1 : st < i
    · by_cases c2 : (l.getD i 0) % 3 = 0
      · simp at c2
        simp [c1, c2, Nat.not_le.mpr c1]
        refine ⟨by omega, by omega, hN _ ⟨i, gs ++ [(st, i)], some (.val (.int i)), by simp [pairD], by simp; omega, ?_⟩⟩
        rw [← he]
        simp [grpGo, c1, c2]
      · simp at c2
        simp [c1, c2, Nat.not_le.mpr c1]
        refine hN _ ⟨st, gs, some (.val (.int i)), by simp, by omega, ?_⟩
        rw [← he]
        simp [grpGo, c1, c2]
    · simp [c1, Nat.not_lt.mp c1]
      refine hN _ ⟨st, gs, some (.val (.int i)), by simp, by omega, ?_⟩
      rw [← he]
      simp [grpGo, c1]
  · rintro Γ ⟨st, gs, x, rfl, hl, he⟩
    simp
    refine ⟨by omega, by omega, by omega, ?_⟩
    rw [← he]
    simp [grpGo, pairD]
/-- groups that run from a to b -/
inductive Runs : Nat → Nat → List (Nat × Nat) → Prop
  | one {a b : Nat} (h : a ≤ b) : Runs a b [(a, b)]
  | cons {a k b : Nat} {r : List (Nat × Nat)} (h : a ≤ k) (t : Runs k b r) : Runs a b ((a, k) :: r)
theorem grpGo_runs (l : List Int) : ∀ (m st k : Nat), st ≤ k → Runs st (k + m) (grpGo l m st k)
  | 0, st, k, h => .one h
  | m + 1, st, k, h => by
    unfold grpGo
    have e : k + (m + 1) = (k + 1) + m := by omega
    split
    · rw [e]; exact .cons h (grpGo_runs l m k (k + 1) (by omega))
    · rw [e]; exact grpGo_runs l m st (k + 1) (by omega)
theorem grps_runs (l : List Int) (n : Nat) : Runs 0 n (grps l n) := by
  have := grpGo_runs l n 0 0 (by omega)
  simpa [grps] using this
/-! ### the mathematics -/
def dueF (c W : Int) : Int → List Int → List Int
  | _, [] => []
  | off, x :: r => (c * (off + x) / W - c * off / W) :: dueF c W (off + x) r
theorem dueF_map (c W : Int) : ∀ (r : List Int) (off : Int), ((List.range r.length).map fun k => c * (off + pre r (k + 1)) / W - c * (off + pre r k) / W) = dueF c W off r
  | [], _ => rfl
  | x :: r, off => by
    rw [List.length_cons, List.range_succ_eq_map, List.map_cons, List.map_map]
    unfold dueF
    rw [← dueF_map c W r (off + x)]
    have e : ∀ k, off + pre (x :: r) (k + 1) = off + x + pre r k := fun k => by simp [pre]; omega
    refine List.cons_eq_cons.mpr ⟨?_, ?_⟩
    · simp [pre]
    · apply List.map_congr_left
      intro k _
      simp only [Function.comp, Nat.succ_eq_add_one, e]
theorem dueL_F (c : Int) (s : List Int) : dueL c s = dueF c s.sum 0 s := by
  rw [← dueF_map]
  simp [dueL, cum]
theorem dueF_len (c W : Int) : ∀ (r : List Int) (off : Int), (dueF c W off r).length = r.length
  | [], _ => rfl
  | x :: r, off => by simp [dueF, dueF_len c W r]
/-- a part of what is due -/
theorem due_part {c : Int} {s : List Int} : ∀ {a b : Nat}, a ≤ b → b ≤ s.length → (((dueL c s).drop a).take (b - a)).sum = cum c s b - cum c s a := by
  intro a b hab
  induction b with
  | zero => intro _; have : a = 0 := by omega
            subst this; simp
  | succ b ih =>
    intro hb
    by_cases h : a = b + 1
    · subst h; simp
    · have e : b + 1 - a = (b - a) + 1 := by omega
      rw [e, List.take_add_one, List.sum_append, ih (by omega) (by omega)]
      have : ((dueL c s).drop a)[b - a]? = some (cum c s (b + 1) - cum c s b) := by
        rw [List.getElem?_drop, show a + (b - a) = b by omega]
        simp [dueL, show b < s.length by omega]
      rw [this]
      simp
      omega
theorem cum_zero (c : Int) (s : List Int) : cum c s 0 = 0 := by simp [cum, pre]
theorem cum_all {c : Int} {s : List Int} (h : 0 < s.sum) : cum c s s.length = c := by
  rw [cum, pre_all]; exact Int.mul_ediv_cancel c (by omega)
theorem due_sum {c : Int} {s : List Int} (h : 0 < s.sum) : (dueL c s).sum = c := by
  have := due_part (c := c) (s := s) (Nat.zero_le s.length) (Nat.le_refl _)
  rw [List.drop_zero, Nat.sub_zero, List.take_of_length_le (by simp [dueL]), cum_all h, cum_zero] at this
  omega
/-- a part of the shares -/
theorem pre_part {s : List Int} : ∀ {a b : Nat}, a ≤ b → ((s.drop a).take (b - a)).sum = pre s b - pre s a := by
  intro a b hab
  have e : s.take b = s.take a ++ (s.drop a).take (b - a) := by
    rw [← List.take_add, show a + (b - a) = b by omega]
  simp only [pre, e, List.sum_append]
  omega
def joinL (s : List Int) (gs : List (Nat × Nat)) : List Int := gs.map fun p => ((s.drop p.1).take (p.2 - p.1)).sum
theorem due_join {c W : Int} {s : List Int} {a b : Nat} {gs : List (Nat × Nat)} (h : Runs a b gs) : dueF c W (pre s a) (joinL s gs) = gs.map (fun p => c * pre s p.2 / W - c * pre s p.1 / W) ∧ (joinL s gs).sum = pre s b - pre s a ∧ ∀ p ∈ gs, p.1 ≤ p.2 ∧ p.2 ≤ b := by
  induction h with
  | @one a b h =>
    simp [joinL, dueF, pre_part h]
    exact ⟨by rw [show pre s a + (pre s b - pre s a) = pre s b by omega], h⟩
  | @cons a k b r h t ih =>
    obtain ⟨i1, i2, i3⟩ := ih
    have hk : k ≤ b := by
      clear i1 i2 i3
      clear h
      induction t with
      | one h => exact h
      | cons h t ih => omega
    refine ⟨?_, ?_, ?_⟩
    · simp only [joinL, List.map_cons, dueF, pre_part h]
      rw [show pre s a + (pre s k - pre s a) = pre s k by omega]
      congr 1
    · simp only [joinL, List.map_cons, List.sum_cons, pre_part h]
      simp only [joinL] at i2
      omega
    · intro p hp
      rcases List.mem_cons.mp hp with rfl | hp
      · exact ⟨h, hk⟩
      · exact i3 p hp
/-! a share of 0 -/
def plainF (c W : Int) : Int → List Int → List Int
  | _, [] => []
  | off, x :: r => if 0 < x then (c * (off + x) / W - c * off / W) :: plainF c W (off + x) r else plainF c W (off + x) r
theorem plain_1 (c W : Int) : ∀ (r : List Int) (off : Int), (∀ x ∈ r, 0 ≤ x) → dueF c W off (r.filter fun x => decide (0 < x)) = plainF c W off r
  | [], _, _ => rfl
  | x :: r, off, h => by
    have hx := h x (by simp)
    have hr : ∀ y ∈ r, 0 ≤ y := fun y hy => h y (by simp [hy])
    by_cases hp : 0 < x
    · rw [List.filter_cons_of_pos (by simpa using hp)]
      simp [dueF, plainF, hp, plain_1 c W r _ hr]
    · rw [List.filter_cons_of_neg (by simpa using hp)]
      have : x = 0 := by omega
      subst this
      simp [plainF, plain_1 c W r _ hr]
theorem plain_2 (c W : Int) : ∀ (r : List Int) (off : Int), (((List.range r.length).filter fun k => decide (0 < r.getD k 0)).map fun k => (dueF c W off r).getD k 0) = plainF c W off r
  | [], _ => rfl
  | x :: r, off => by
    rw [List.length_cons, List.range_succ_eq_map]
    have ih := plain_2 c W r (off + x)
    have e : (List.map Nat.succ (List.range r.length)).filter (fun k => decide (0 < (x :: r).getD k 0)) = ((List.range r.length).filter fun k => decide (0 < r.getD k 0)).map Nat.succ := by
      rw [List.filter_map]; rfl
    by_cases hp : 0 < x
    · rw [List.filter_cons_of_pos (by simpa using hp), e, List.map_cons, List.map_map]
      simp only [plainF, hp, if_true, dueF]
      refine List.cons_eq_cons.mpr ⟨by simp, ?_⟩
      rw [← ih]; rfl
    · rw [List.filter_cons_of_neg (by simpa using hp), e, List.map_map]
      simp only [plainF, hp, if_false, dueF]
      rw [← ih]; rfl
theorem plain_sum : ∀ (r : List Int), (∀ x ∈ r, 0 ≤ x) → (r.filter fun x => decide (0 < x)).sum = r.sum
  | [], _ => rfl
  | x :: r, h => by
    have hx := h x (by simp)
    have hr : ∀ y ∈ r, 0 ≤ y := fun y hy => h y (by simp [hy])
    by_cases hp : 0 < x
    · rw [List.filter_cons_of_pos (by simpa using hp)]
      simp [plain_sum r hr]
    · rw [List.filter_cons_of_neg (by simpa using hp)]
      have : x = 0 := by omega
      subst this
      simp [plain_sum r hr]
/-! two neighbouring values -/
theorem two_sum {q : Int} : ∀ l : List Int, (∀ x ∈ l, x = q ∨ x = q + 1) → l.sum = q * l.length + l.count (q + 1) ∧ l.count q + l.count (q + 1) = l.length
  | [], _ => by simp
  | x :: l, h => by
    obtain ⟨h1, h2⟩ := two_sum l fun y hy => h y (by simp [hy])
    have e : q * ((l.length : Int) + 1) = q * l.length + q := by rw [Int.mul_add, Int.mul_one]
    rcases h x (by simp) with rfl | rfl
    · have n1 : ¬ (x = x + 1) := by omega
      simp [List.count_cons, n1]
      constructor
      · rw [h1, e]; omega
      · omega
    · have n1 : ¬ (q + 1 = q) := by omega
      simp [List.count_cons, n1]
      constructor
      · rw [h1, e]; omega
      · omega
theorem two_perm {q : Int} {l m : List Int} (hl : ∀ x ∈ l, x = q ∨ x = q + 1) (hm : ∀ x ∈ m, x = q ∨ x = q + 1) (e1 : l.length = m.length) (e2 : l.sum = m.sum) : l.Perm m := by
  obtain ⟨a1, a2⟩ := two_sum l hl
  obtain ⟨b1, b2⟩ := two_sum m hm
  have hc : l.count (q + 1) = m.count (q + 1) := by
    have : (l.count (q + 1) : Int) = m.count (q + 1) := by
      rw [e1] at a1; omega
    omega
  refine List.perm_iff_count.mpr fun a => ?_
  by_cases h1 : a = q + 1
  · subst h1; exact hc
  · by_cases h2 : a = q
    · subst h2; omega
    · rw [List.count_eq_zero.mpr fun h => (hl a h).elim h2 h1, List.count_eq_zero.mpr fun h => (hm a h).elim h2 h1]
theorem two_div {c n A : Int} (hn : 0 < n) : (A + c) / n - A / n = c / n ∨ (A + c) / n - A / n = c / n + 1 := by
  have h1 := Int.mul_ediv_add_emod A n
  have h2 := Int.mul_ediv_add_emod c n
  have h3 := Int.emod_nonneg A (show n ≠ 0 by omega)
  have h4 := Int.emod_lt_of_pos A hn
  have h5 := Int.emod_nonneg c (show n ≠ 0 by omega)
  have h6 := Int.emod_lt_of_pos c hn
  have e : A + c = (A % n + c % n) + n * (A / n + c / n) := by rw [Int.mul_add]; omega
  rw [e, Int.add_mul_ediv_left _ _ (show n ≠ 0 by omega)]
  by_cases h : A % n + c % n < n
  · left
    rw [Int.ediv_eq_zero_of_lt (by omega) h]; omega
  · right
    have : (A % n + c % n) / n = 1 := by
      have e2 : A % n + c % n = (A % n + c % n - n) + n * 1 := by omega
      rw [e2, Int.add_mul_ediv_left _ _ (show n ≠ 0 by omega), Int.ediv_eq_zero_of_lt (by omega) (by omega)]; omega
    rw [this]; omega
theorem pre_rep (x : Int) (n k : Nat) (h : k ≤ n) : pre (List.replicate n x) k = x * k := by
  simp [pre, List.take_replicate, Nat.min_eq_left h, Int.mul_comm]
theorem even_two {c x : Int} {n : Nat} (hx : 0 < x) (hn : 0 < n) : ∀ y ∈ dueL c (List.replicate n x), y = c / n ∨ y = c / n + 1 := by
  intro y hy
  obtain ⟨k, hk, rfl⟩ := List.mem_map.mp hy
  simp at hk
  have hs : (List.replicate n x).sum = x * n := by simp [Int.mul_comm]
  simp only [cum, pre_rep x n k (by omega), pre_rep x n (k + 1) (by omega), hs]
  have e1 : c * (x * (k : Int)) / (x * n) = c * k / n := by
    rw [show c * (x * (k : Int)) = x * (c * k) by rw [← Int.mul_assoc, Int.mul_comm c x, Int.mul_assoc]]
    exact Int.mul_ediv_mul_of_pos _ _ hx
  have e2 : c * (x * ((k + 1 : Nat) : Int)) / (x * n) = (c * k + c) / n := by
    rw [show c * (x * ((k + 1 : Nat) : Int)) = x * (c * k + c) by
      rw [← Int.mul_assoc, Int.mul_comm c x, Int.mul_assoc]
      congr 1
      rw [show ((k + 1 : Nat) : Int) = (k : Int) + 1 from rfl, Int.mul_add, Int.mul_one]]
    exact Int.mul_ediv_mul_of_pos _ _ hx
  rw [e1, e2]
  exact two_div (by omega)
theorem coins_two (c : Int) (n : Nat) : ∀ y ∈ coinsL c n, y = c / n ∨ y = c / n + 1 := by
  intro y hy
  obtain ⟨k, hk, rfl⟩ := List.mem_map.mp hy
  by_cases h : (k : Int) < c % n <;> simp [h]
theorem coins_sum' (q r : Int) : ∀ n : Nat, 0 ≤ r → ((List.range n).map fun (k : Nat) => q + (if (k : Int) < r then 1 else 0)).sum = q * n + min r n
  | 0, h => by simp; omega
  | n + 1, h => by
    rw [List.range_succ, List.map_append, List.sum_append, coins_sum' q r n h]
    have e : q * ((n + 1 : Nat) : Int) = q * n + q := by rw [show ((n + 1 : Nat) : Int) = (n : Int) + 1 from rfl, Int.mul_add, Int.mul_one]
    rw [e]
    by_cases h1 : (n : Int) < r
    · simp [h1]; omega
    · simp [h1]; omega
theorem coins_sum {c : Int} {n : Nat} (h0 : 0 ≤ c) (hn : 0 < n) : (coinsL c n).sum = c := by
  have h3 := Int.emod_nonneg c (show (n : Int) ≠ 0 by omega)
  have h4 := Int.emod_lt_of_pos c (show 0 < (n : Int) by omega)
  have h5 := Int.mul_ediv_add_emod c n
  rw [coinsL, coins_sum' _ _ _ h3, Int.mul_comm]
  omega
theorem coins_len (c : Int) (n : Nat) : (coinsL c n).length = n := by simp [coinsL]
theorem coins_perm {c x : Int} {n : Nat} (h0 : 0 ≤ c) (hx : 0 < x) (hn : 0 < n) : (dueL c (List.replicate n x)).Perm (coinsL c n) := by
  have hs : (List.replicate n x).sum = x * n := by simp [Int.mul_comm]
  refine two_perm (even_two hx hn) (coins_two c n) (by simp [dueL, coinsL]) ?_
  rw [due_sum (by rw [hs]; exact Int.mul_pos hx (by omega)), coins_sum h0 hn]
/-! ### the law -/
def shareN (m b c : Int) : Int := if m = 0 then b % 3 else if m = 1 then b % 20 else if m = 2 then b * 9 + c % 9 else if b % 2 = 0 then 0 else 1000000
theorem shareN_bd {m b c : Int} (h0 : 0 ≤ b) (h1 : b < 5040) : 0 ≤ shareN m b c ∧ shareN m b c ≤ 1000000 := by
  unfold shareN
  split
  · omega
  · split
    · omega
    · split
      · omega
      · split <;> omega
theorem sum_nn : ∀ {l : List Int}, (∀ x ∈ l, 0 ≤ x) → 0 ≤ l.sum
  | [], _ => by simp
  | x :: l, h => by
    have := sum_nn (l := l) fun y hy => h y (by simp [hy])
    have := h x (by simp)
    simp; omega
theorem sum_le {B : Int} : ∀ {l : List Int}, (∀ x ∈ l, x ≤ B) → l.sum ≤ B * l.length
  | [], _ => by simp
  | x :: l, h => by
    have := sum_le (l := l) fun y hy => h y (by simp [hy])
    have := h x (by simp)
    have e : B * ((l.length : Int) + 1) = B * l.length + B := by rw [Int.mul_add, Int.mul_one]
    simp [e]; omega
theorem sum_ge : ∀ {l : List Int}, (∀ x ∈ l, 0 ≤ x) → ∀ x ∈ l, x ≤ l.sum
  | y :: l, h, x, hx => by
    have h1 := sum_nn (l := l) fun z hz => h z (by simp [hz])
    have h2 := h y (by simp)
    rcases List.mem_cons.mp hx with rfl | hx
    · simp; omega
    · have := sum_ge (l := l) (fun z hz => h z (by simp [hz])) x hx
      simp; omega
end DL

set_option Elab.async false
set_option linter.all false
set_option maxRecDepth 100000
set_option maxHeartbeats 4000000
namespace DL
open PySem PySem.Spec PyProof.Rows L2
/-! ### the law -/
def sp_law : List D → D → Prop := fun ds d => ∃ ns : List Int, ds = [.scr ns] ∧ d = .bl true
theorem sp_law_len : ∀ (ds : List D) (d : D), sp_law ds d → ds.length = 1 := by
  rintro _ _ ⟨_, rfl, _⟩; rfl
def sem_law_b1 : WS :=
  (sSeq (sSet 11 (wLc (wItL (wVar 10)) (gTupD 2 (gsCons (gSet 16) (gsCons (gSet 17) gsNil))) wYes (wCall wSum (wCons (wSl slL (wVar 5) (wPart (wVar 16)) (wPart (wVar 17))) wNil)) [16, 17]))
  (sIf (wAnd (wTest (w2 wLe (wCall wMaxL (wCons (wVar 11) wNil)) (w2 wPow (wC (.int 10)) (wC (.int 6))))) (wNot (wTru (wFn sp_law_same (wCons (wFn sp_parts_of (wCons (wVar 6) (wCons (wVar 11) wNil))) (wCons (wLc (wItL (wVar 10)) (gTupD 2 (gsCons (gSet 16) (gsCons (gSet 17) gsNil))) wYes (wCall wSum (wCons (wSl slL (wVar 7) (wPart (wVar 16)) (wPart (wVar 17))) wNil)) [16, 17]) wNil))))))
  (sRet (wC (.bl false)))
  sNext))
def sem_law_b2 : WS :=
  (sSeq (sSet 7 (wFn sp_law_due (wCons (wVar 6) (wCons (wVar 5) wNil))))
  (sSeq (sSet 8 (wCall wList (wCons (wVar 5) wNil)))
  (sSeq (sSet 9 (wFn sp_parts_of (wCons (wVar 6) (wCons (wVar 8) wNil))))
  (sSeq (sIf (wOr (wNot (wTru (wFn sp_law_same (wCons (wVar 9) (wCons (wVar 7) wNil))))) (wOr (wTest (w2 wNe (wVar 8) (wVar 5))) (wTest (w2 wNe (wCall wSum (wCons (wVar 9) wNil)) (wVar 6)))))
  (sRet (wC (.bl false)))
  sNext)
  (sSeq (sFor (wItL (wLst (wCons (wFn sp_law_groups (wCons (wVar 2) (wCons (wSl slL (wVar 1) (wPart (wC (.int 10))) wNoPart) wNil))) (wCons (wLst (wCons (wTup (wCons (wC (.int 0)) (wCons (w2 wDiv (wVar 2) (wC (.int 2))) wNil))) (wCons (wTup (wCons (w2 wDiv (wVar 2) (wC (.int 2))) (wCons (wVar 2) wNil))) wNil))) wNil)))) (gSet 10)
  sem_law_b1)
  (sSeq (sSet 12 (wLc (wItL (wVar 5)) (gSet 18) (wTest (w2 wGt (wVar 18) (wC (.int 0)))) (wVar 18) [18]))
  (sSeq (sIf (wNot (wTru (wFn sp_law_same (wCons (wFn sp_parts_of (wCons (wVar 6) (wCons (wVar 12) wNil))) (wCons (wLc (wItR1 (wCons (wVar 2) wNil)) (gSet 15) (wTest (w2 wGt (w2 wIx (wVar 5) (wVar 15)) (wC (.int 0)))) (w2 wIx (wVar 7) (wVar 15)) [15]) wNil)))))
  (sRet (wC (.bl false)))
  sNext)
  (sSeq (sSet 13 (w2 wSub (wVar 6) (w2 wMul (w2 wDiv (wVar 6) (wVar 2)) (wVar 2))))
  (sSeq (sSet 14 (wLc (wItR1 (wCons (wVar 2) wNil)) (gSet 15) wYes (w2 wAdd (w2 wDiv (wVar 6) (wVar 2)) (wCall wInt (wCons (w2 wLt (wVar 15) (wVar 13)) wNil))) [15]))
  (sSeq (sIf (wNot (wTru (wFn sp_law_same (wCons (wFn sp_instalments (wCons (wVar 6) (wCons (wVar 2) wNil))) (wCons (wVar 14) wNil)))))
  (sRet (wC (.bl false)))
  sNext)
  (sIf (wTest (w2 wNe (wCall wSortI (wCons (wFn sp_parts_of (wCons (wVar 6) (wCons (wLc (wItR1 (wCons (wVar 2) wNil)) (gSet 15) wYes (w2 wAdd (wC (.int 1)) (w2 wMod (w2 wIx (wVar 1) (wC (.int 7))) (wC (.int 9)))) [15]) wNil))) wNil)) (wCall wSortI (wCons (wVar 14) wNil))))
  (sRet (wC (.bl false)))
  sNext)))))))))))
def sem_law : WS :=
  (sSeq (sSet 1 (wFn sp_law_draws (wCons (wVar 0) (wCons (wC (.int 0)) (wCons (wC (.int 60)) wNil)))))
  (sSeq (sSet 2 (w2 wAdd (wC (.int 9)) (w2 wMod (w2 wIx (wVar 1) (wC (.int 0))) (wC (.int 12)))))
  (sSeq (sSet 3 (wFn sp_law_draws (wCons (wVar 0) (wCons (wC (.int 1)) (wCons (wC (.int 20)) wNil)))))
  (sSeq (sSet 4 (wFn sp_law_draws (wCons (wVar 0) (wCons (wC (.int 2)) (wCons (wC (.int 20)) wNil)))))
  (sSeq (sOwn 5 (wLc (wItR1 (wCons (wVar 2) wNil)) (gSet 15) wYes (w2 wIx (wLst (wCons (w2 wMod (w2 wIx (wVar 3) (wVar 15)) (wC (.int 3))) (wCons (w2 wMod (w2 wIx (wVar 3) (wVar 15)) (wC (.int 20))) (wCons (w2 wAdd (w2 wMul (w2 wIx (wVar 3) (wVar 15)) (wC (.int 9))) (w2 wMod (w2 wIx (wVar 4) (wVar 15)) (wC (.int 9)))) (wCons (w2 wIx (wLst (wCons (wC (.int 0)) (wCons (w2 wPow (wC (.int 10)) (wC (.int 6))) wNil))) (w2 wMod (w2 wIx (wVar 3) (wVar 15)) (wC (.int 2)))) wNil))))) (w2 wMod (w2 wIx (wVar 1) (wC (.int 1))) (wC (.int 4)))) [15]))
  (sSeq (sIf (wTest (w2 wEq (wCall wSum (wCons (wBor 5) wNil)) (wC (.int 0))))
  (sPut 5 (w2 wMod (w2 wIx (wVar 1) (wC (.int 2))) (wVar 2)) (wC (.int 1)))
  sNext)
  (sFrz 5 (sSeq (sFor (wItL (wLst (wCons (w2 wMod (w2 wIx (wVar 1) (wC (.int 3))) (wC (.int 50))) (wCons (w2 wMul (w2 wIx (wVar 1) (wC (.int 4))) (wC (.int 198412))) (wCons (w2 wSub (w2 wPow (wC (.int 10)) (wC (.int 9))) (w2 wIx (wVar 1) (wC (.int 5)))) (wCons (w2 wIx (wVar 1) (wC (.int 6))) wNil)))))) (gSet 6)
  sem_law_b2)
  (sRet (wC (.bl true)))))))))))
def envL (ns A : List Int) (n : Nat) (B C S : List Int) (c : Int) (r : List (Option Sl)) : GE :=
  [some (.val (.scr ns)), some (.val (.lst (A.map .int))), some (.val (.int n)), some (.val (.lst (B.map .int))), some (.val (.lst (C.map .int))), some (.val (.lst (S.map .int))), some (.val (.int c))] ++ r
theorem sums_lc {S : List Int} {gs : List (Nat × Nat)} (hl : gs.length ≤ 1000000) {Γ : GE} {i : Nat} (hi : i ≠ 16) (hi2 : i ≠ 17) (hg : Γ[i]? = some (some (.val (.lst (S.map .int))))) (hL : 17 < Γ.length) {Φ : List D → Prop} (h : Φ ((joinL S gs).map .int)) :
    lcGo (gTupD 2 (gsCons (gSet 16) (gsCons (gSet 17) gsNil))) wYes (wCall wSum (wCons (wSl slL (wVar i) (wPart (wVar 16)) (wPart (wVar 17))) wNil)) Γ (gs.map pairD) [] Φ := by
  refine lc_map pairD (fun p => D.int ((S.drop p.1).take (p.2 - p.1)).sum) gs (fun p hp Ψ hΨ => ?_) (by have := line_le hl; omega) (by rw [joinL, List.map_map] at h; exact h)
  have e16 : ((Γ.set 16 (some (.val (.int (p.1 : Int))))).set 17 (some (.val (.int (p.2 : Int)))))[i]? = some (some (.val (.lst (S.map .int)))) := by
    rw [List.getElem?_set_ne (by omega), List.getElem?_set_ne (by omega), hg]
  have f16 : ((Γ.set 16 (some (.val (.int (p.1 : Int))))).set 17 (some (.val (.int (p.2 : Int)))))[16]? = some (some (.val (.int (p.1 : Int)))) := by
    rw [List.getElem?_set_ne (by omega), List.getElem?_set_self (by omega)]
  have f17 : ((Γ.set 16 (some (.val (.int (p.1 : Int))))).set 17 (some (.val (.int (p.2 : Int)))))[17]? = some (some (.val (.int (p.2 : Int)))) := by
    rw [List.getElem?_set_self (by simp; omega)]
  simp only [elW, pairD, gTupD, gsCons, gSet, gsNil, wYes, wCall, wCons, wNil, wSl, wPart, wVar]
  simp only [e16, f16, f17]
  simp [slL, cutD_nat, hΨ, -List.map_drop, -List.map_take]
theorem runs_len {a b : Nat} {gs : List (Nat × Nat)} (h : Runs a b gs) : 0 < gs.length := by cases h <;> simp
theorem use_parts {c : Int} {s : List Int} {P : D → Prop} (h : Fit c s) (hP : P (.lst ((dueL c s).map .int))) : ∃ d, sp_parts_of [.int c, .lst (s.map .int)] d ∧ P d := ⟨_, ⟨c, s, h, rfl, rfl⟩, hP⟩
@[simp] theorem use_same {a b : D} {P : D → Prop} : (∃ r, sp_law_same_n 8 [a, b] r ∧ P r) ↔ sm 8 a = true ∧ b = a ∧ P (.bl true) := by
  constructor
  · rintro ⟨_, ⟨d, h, e, rfl⟩, p⟩
    simp at e
    obtain ⟨rfl, rfl⟩ := e
    exact ⟨h, rfl, p⟩
  · rintro ⟨h, rfl, p⟩
    exact ⟨_, ⟨_, h, rfl, rfl⟩, p⟩
@[simp] theorem sm_ints (n : Nat) (l : List Int) : sm (n + 1) (.lst (l.map .int)) = decide (l.length ≤ 1000000) := by simp
theorem b1 {ns A B C S : List Int} {n : Nat} {c : Int} {gs : List (Nat × Nat)} {x8 x9 x11 x12 x13 x14 x15 x16 x17 x18 : Option Sl} {κ : DK} (lS : S.length = n) (hn : n ≤ 20) (mS : ∀ x ∈ S, 0 ≤ x) (fit : Fit c S) (hg : Runs 0 n gs) (hgl : gs.length ≤ 1000)
    (hN : ∀ y11 : Option Sl, κ.nx (envL ns A n B C S c [some (.val (.lst ((dueL c S).map .int))), x8, x9, some (.val (.lst (gs.map pairD))), y11, x12, x13, x14, x15, x16, x17, x18])) :
    sem_law_b1 (envL ns A n B C S c [some (.val (.lst ((dueL c S).map .int))), x8, x9, some (.val (.lst (gs.map pairD))), x11, x12, x13, x14, x15, x16, x17, x18]) κ := by
  obtain ⟨d1, d2, d3⟩ := due_join (c := c) (W := S.sum) (s := S) hg
  unfold sem_law_b1 envL
  apply sq
  · intro N hN
    simp [wLc]
    exact sums_lc (by omega) (by omega) (by omega) rfl (by simp) hN
  have hsz : ∀ k : Nat, k ≤ 1000000 → k ≤ sizeLine := fun k hk => Nat.le_of_lt (line_le hk)
  have hj : (joinL S gs).sum = S.sum := by rw [d2, ← lS, pre_all, pre_zero, Int.sub_zero]
  simp [CPow, hsz, wLc]
  refine ⟨by simpa [joinL] using runs_len hg, fun m hm hy => ?_⟩
  by_cases hm6 : m ≤ 1000000
  · refine .inr ⟨hm6, use_parts ⟨fit.c0, fit.c1, by simpa [joinL] using hgl, by rw [hj]; exact fit.pos, by rw [hj]; exact fit.lim⟩ ?_⟩
    refine sums_lc (S := dueL c S) (by omega) (by omega) (by omega) rfl (by simp) ?_
    refine ⟨by simp [dueL_len, joinL]; omega, ?_, hN _⟩
    congr 1; congr 1
    rw [dueL_F c (joinL S gs), hj, ← pre_zero S, d1]
    refine List.map_congr_left fun p hp => ?_
    obtain ⟨h1, h2⟩ := d3 p hp
    exact due_part h1 (by omega)
  · exact .inl ⟨by omega, hN _⟩
theorem grpGo_len (l : List Int) : ∀ (m st k : Nat), (grpGo l m st k).length ≤ m + 1
  | 0, st, k => by simp [grpGo]
  | m + 1, st, k => by
    unfold grpGo
    split
    · simpa using grpGo_len l m k (k + 1)
    · have := grpGo_len l m st (k + 1); omega
theorem cutD_tail {α : Type} (f : α → D) (l : List α) (a : Nat) : cutD (l.map f) (some (a : Int)) none = (l.drop a).map f := by
  unfold cutD
  rw [HT.sIx_nat, List.length_map]
  apply List.ext_getElem?
  intro i
  simp only [HT.sIx, List.getElem?_take, List.getElem?_drop, List.getElem?_map]
  by_cases h1 : a + i < l.length
  · rw [Nat.min_eq_left (show a ≤ l.length by omega), if_pos (by omega)]
  · rw [List.getElem?_eq_none (show l.length ≤ a + i by omega)]
    split
    · rw [List.getElem?_eq_none (show l.length ≤ min a l.length + i by omega)]
    · rfl
/-- one statement, then the next: what holds behind it -/
theorem sqI {f g : WS} {Γ : GE} {κ : DK} (P : GE → Prop) (h1 : ∀ N : GE → Prop, (∀ Γ', P Γ' → N Γ') → f Γ { κ with nx := N }) (h2 : ∀ Γ', P Γ' → g Γ' κ) : sSeq f g Γ κ := h1 _ h2
theorem lc_rng {g : WG} {tt : WT} {te : WE} {Γ : GE} {Φ : List D → Prop} (f : Nat → D) {n : Nat} {lo : Int} (hs : ∀ k < n, ∀ Ψ, Ψ (some (f k)) → elW g tt te Γ (.int (lo + k)) Ψ) (hl : n ≤ sizeLine) (h : Φ ((List.range n).map f)) : lcGo g tt te Γ (rngD lo n) [] Φ :=
  lc_map (fun (i : Nat) => D.int (lo + i)) f (List.range n) (fun k hk => hs k (List.mem_range.mp hk)) (by simpa using hl) h
theorem b2 {ns A B C S : List Int} {n : Nat} {c A7 : Int} {x7 x8 x9 x10 x11 x12 x13 x14 x15 x16 x17 x18 : Option Sl} {κ : DK} (lA : A.length = 60) (lS : S.length = n) (hn1 : 9 ≤ n) (hn : n ≤ 20) (mS : ∀ x ∈ S, 0 ≤ x) (fit : Fit c S)
    (a7 : atI (A.map D.int) 7 = some (.int A7)) (m7 : 0 ≤ A7)
    (hN : ∀ y7 y8 y9 y10 y11 y12 y13 y14 y15 y16 y17 y18 : Option Sl, κ.nx (envL ns A n B C S c [y7, y8, y9, y10, y11, y12, y13, y14, y15, y16, y17, y18])) :
    sem_law_b2 (envL ns A n B C S c [x7, x8, x9, x10, x11, x12, x13, x14, x15, x16, x17, x18]) κ := by
  have hsz : ∀ k : Nat, k ≤ 1000000 → k ≤ sizeLine := fun k hk => Nat.le_of_lt (line_le hk)
  have hds : (dueL c S).sum = c := due_sum fit.pos
  have hdl : (dueL c S).length = n := by rw [dueL_len, lS]
  unfold sem_law_b2 envL
  apply sq
  · intro N hN; simp; exact ⟨_, ⟨c, S, fit, rfl, rfl⟩, hN⟩
  apply sq
  · intro N hN; simp [hsz, lS, show n ≤ 1000000 by omega]; exact hN
  apply sq
  · intro N hN; simp; exact ⟨_, ⟨c, S, fit, rfl, rfl⟩, hN⟩
  apply sq
  · intro N hN; simp [hds, hdl]; exact ⟨by omega, hN⟩
  have hng : n ≤ 1000 := by omega
  refine sqI (fun Γ => ∃ x9 x10 x11 x12 x13 x14 x15 x16 x17 x18 : Option Sl, Γ = envL ns A n B C S c [some (.val (.lst ((dueL c S).map .int))), some (.val (.lst (S.map .int))), x9, x10, x11, x12, x13, x14, x15, x16, x17, x18]) ?_ ?_
  · intro N hN
    have ecut : cutD (A.map D.int) (some 10) none = (A.drop 10).map D.int := cutD_tail D.int A 10
    simp [ecut, -List.map_drop]
    refine ⟨_, ⟨n, A.drop 10, by omega, by simp; omega, rfl, rfl⟩, ?_⟩
    rw [show [D.lst ((grps (A.drop 10) n).map pairD), D.lst [D.tup [D.int 0, D.int (n / 2)], D.tup [D.int (n / 2), D.int n]]] = [grps (A.drop 10) n, [(0, n / 2), (n / 2, n)]].map (fun gs => D.lst (gs.map pairD)) by simp [pairD]]
    refine ⟨⟨by omega, by omega⟩, hsz _ (by omega), ⟨by omega, by omega⟩, hsz _ (by omega), ?_⟩
    refine for_list (fun gs => D.lst (gs.map pairD)) (fun i Γ => ∃ x9 x10 x11 x12 x13 x14 x15 x16 x17 x18 : Option Sl, Γ = envL ns A n B C S c [some (.val (.lst ((dueL c S).map .int))), some (.val (.lst (S.map .int))), x9, x10, x11, x12, x13, x14, x15, x16, x17, x18]) [grps (A.drop 10) n, [(0, n / 2), (n / 2, n)]] ⟨_, _, _, _, _, _, _, _, _, _, rfl⟩ ?_ ?_
    · rintro i gs Γ N ha ⟨x9, x10, x11, x12, x13, x14, x15, x16, x17, x18, rfl⟩ hN
      have hg : Runs 0 n gs ∧ gs.length ≤ 1000 := by
        rcases i with _ | _ | i
        · simp at ha; subst ha; exact ⟨grps_runs _ _, by have := grpGo_len (A.drop 10) n 0 0; unfold grps; omega⟩
        · simp at ha; subst ha; exact ⟨.cons (by omega) (.one (by omega)), by simp⟩
        · simp at ha
      exact b1 lS hn mS fit hg.1 hg.2 fun y11 => hN _ ⟨_, _, _, _, _, _, _, _, _, _, rfl⟩
    · rintro Γ ⟨x9, x10, x11, x12, x13, x14, x15, x16, x17, x18, rfl⟩
      exact hN _ ⟨_, _, _, _, _, _, _, _, _, _, rfl⟩
  rintro Γ ⟨x9, x10, x11, x12, x13, x14, x15, x16, x17, x18, rfl⟩
  unfold envL
  -- without those who pay nothing
  apply sq
  · intro N hN
    simp [wLc]
    refine lc_filter D.int (fun x => decide (0 < x)) D.int S (fun x hx Ψ hΨ => ?_) (hsz _ (by omega)) hN
    simp [elW]
    by_cases h : 0 < x
    · simp [h] at hΨ; exact .inr ⟨h, hΨ⟩
    · simp [h] at hΨ; exact .inl ⟨by omega, hΨ⟩
  have fl : (S.filter fun x => decide (0 < x)).length ≤ n := by rw [← lS]; exact List.length_filter_le _ _
  have fs : (S.filter fun x => decide (0 < x)).sum = S.sum := plain_sum S mS
  apply sq
  · intro N hN
    simp [wLc]
    refine use_parts ⟨fit.c0, fit.c1, by omega, by rw [fs]; exact fit.pos, by rw [fs]; exact fit.lim⟩ ⟨by omega, ?_⟩
    refine lc_filter (fun (i : Nat) => D.int (0 + i)) (fun k => decide (0 < S.getD k 0)) (fun k => D.int ((dueL c S).getD k 0)) (List.range n) (fun k hk Ψ hΨ => ?_) (by simp; exact hsz _ (by omega)) ?_
    · have hk' : k < n := List.mem_range.mp hk
      have s1 := atI_ints (l := S) (i := k) (by omega)
      have s2 := atI_ints (l := dueL c S) (i := k) (by omega)
      simp [elW, s1, s2]
      by_cases h : 0 < S.getD k 0
      · rw [if_pos (by simpa using h)] at hΨ; simp at h hΨ; exact .inr ⟨h, hΨ⟩
      · rw [if_neg (by simpa using h)] at hΨ; simp at h; exact .inl ⟨by omega, hΨ⟩
    · refine ⟨by simp [dueL_len]; omega, ?_, hN⟩
      rw [show (fun k => D.int ((dueL c S).getD k 0)) = D.int ∘ (fun k => (dueL c S).getD k 0) from rfl, ← List.map_map]
      congr 2
      rw [dueL_F c (S.filter fun x => decide (0 < x)), fs, plain_1 c S.sum S 0 mS, ← plain_2 c S.sum S 0, lS, dueL_F]
  -- instalments
  have hnn : (0 : Int) < n := by omega
  have hr : c - c / n * n = c % n := by have := Int.mul_ediv_add_emod c n; rw [Int.mul_comm] at this; omega
  have hq0 : 0 ≤ c / n := Int.ediv_nonneg fit.c0 (by omega)
  have hq1 : c / n ≤ c := Int.ediv_le_self _ fit.c0
  have hc1 := fit.c1
  apply sq
  · intro N hN
    simp only [sSet, w2, wSub, wMul, wDiv, wII, wVar]
    simp [divOk, mulOk, CMul, hr]
    refine ⟨⟨by omega, by omega⟩, .inl (by omega), hN⟩
  apply sq
  · intro N hN
    simp [wLc]
    refine ⟨by omega, ?_⟩
    refine lc_rng (fun (k : Nat) => D.int (c / n + (if (k : Int) < c % n then 1 else 0))) (fun k hk Ψ hΨ => ?_) ?_ ?_
    rotate_left
    · exact hsz _ (by omega)
    · rw [show (List.range n).map (fun (k : Nat) => D.int (c / n + (if (k : Int) < c % n then 1 else 0))) = (coinsL c n).map D.int by simp [coinsL]]
      exact hN
    simp [elW, divOk]
    by_cases h : (k : Int) < c % n
    · simp [h] at hΨ; simp [h]; exact ⟨⟨by omega, by omega⟩, hΨ⟩
    · simp [h] at hΨ; simp [h]; exact ⟨⟨by omega, by omega⟩, hΨ⟩
  apply sq
  · intro N hN
    simp
    refine ⟨_, ⟨c, n, fit.c0, by omega, by omega, rfl, rfl⟩, ?_⟩
    simp [coins_len]
    exact ⟨by omega, hN⟩
  obtain ⟨x, hx⟩ : ∃ x : Int, x = 1 + A7 % 9 := ⟨_, rfl⟩
  have hx1 : 1 ≤ x ∧ x ≤ 9 := by omega
  have hs : (List.replicate n x).sum = x * n := by rw [List.sum_replicate_int]; exact Int.mul_comm _ _
  simp [wLc, a7]
  refine ⟨by omega, ?_⟩
  refine lc_rng (fun (k : Nat) => D.int x) (fun k hk Ψ hΨ => ?_) ?_ ?_
  · simp [elW, a7]; rw [← hx]; exact hΨ
  · exact hsz _ (by omega)
  rw [show (List.range n).map (fun (k : Nat) => D.int x) = (List.replicate n x).map D.int by simp [List.map_const']]
  have hpos : 0 < (List.replicate n x).sum := by rw [hs]; exact Int.mul_pos (by omega) (by omega)
  have hlim : (List.replicate n x).sum < 2 ^ 60 := by rw [hs]; have := Int.mul_le_mul (show x ≤ 9 by omega) (show (n : Int) ≤ 20 by omega) (by omega) (by omega); omega
  refine use_parts ⟨fit.c0, fit.c1, by simp; omega, hpos, hlim⟩ ?_
  simp
  intro l1 p1 o1 l2 p2 o2
  have e : l1 = l2 := PySem.W.ksm_same (p1.trans ((coins_perm fit.c0 (by omega) (by omega)).trans p2.symm)) o1 o2
  subst e
  simp
  exact hN _ _ _ _ _ _ _ _ _ _ _ _
theorem hf_law : ∀ (ds : List D) (d : D), sp_law ds d → sem_law (startG 19 ds) { nx := fun _ => false = false ∧ d = .non, rt := fun z => z = d } := by
  rintro _ _ ⟨ns, rfl, rfl⟩
  have lA := drawsL_len ns 0 60
  have mA := drawsL_mem ns 0 60
  have lB := drawsL_len ns 1 20
  have mB := drawsL_mem ns 1 20
  have lC := drawsL_len ns 2 20
  have mC := drawsL_mem ns 2 20
  unfold sem_law
  simp only [startG, List.map, List.replicate, List.length, List.append, List.cons_append, List.nil_append, Nat.reduceSub, Nat.reduceAdd]
  -- draws
  apply sq
  · intro N hN
    simp; exact ⟨_, ⟨ns, 0, 60, by omega, rfl, rfl⟩, hN⟩
  generalize drawsL ns 0 60 = A at *
  have a0 : atI (A.map D.int) 0 = some (.int (A.getD 0 0)) := atI_ints (i := 0) (by omega)
  have a1 : atI (A.map D.int) 1 = some (.int (A.getD 1 0)) := atI_ints (i := 1) (by omega)
  have a2 : atI (A.map D.int) 2 = some (.int (A.getD 2 0)) := atI_ints (i := 2) (by omega)
  have a3 : atI (A.map D.int) 3 = some (.int (A.getD 3 0)) := atI_ints (i := 3) (by omega)
  have a4 : atI (A.map D.int) 4 = some (.int (A.getD 4 0)) := atI_ints (i := 4) (by omega)
  have a5 : atI (A.map D.int) 5 = some (.int (A.getD 5 0)) := atI_ints (i := 5) (by omega)
  have a6 : atI (A.map D.int) 6 = some (.int (A.getD 6 0)) := atI_ints (i := 6) (by omega)
  have a7 : atI (A.map D.int) 7 = some (.int (A.getD 7 0)) := atI_ints (i := 7) (by omega)
  have m0 := getD_mem mA (show 0 < A.length by omega)
  have m1 := getD_mem mA (show 1 < A.length by omega)
  have m2 := getD_mem mA (show 2 < A.length by omega)
  have m3 := getD_mem mA (show 3 < A.length by omega)
  have m4 := getD_mem mA (show 4 < A.length by omega)
  have m5 := getD_mem mA (show 5 < A.length by omega)
  have m6 := getD_mem mA (show 6 < A.length by omega)
  have m7 := getD_mem mA (show 7 < A.length by omega)
  generalize A.getD 0 0 = A0 at *
  generalize A.getD 1 0 = A1 at *
  generalize A.getD 2 0 = A2 at *
  generalize A.getD 3 0 = A3 at *
  generalize A.getD 4 0 = A4 at *
  generalize A.getD 5 0 = A5 at *
  generalize A.getD 6 0 = A6 at *
  generalize A.getD 7 0 = A7 at *
  -- count
  obtain ⟨n, hn, hn1, hn2⟩ : ∃ n : Nat, 9 + A0 % 12 = (n : Int) ∧ 9 ≤ n ∧ n ≤ 20 := ⟨(9 + A0 % 12).toNat, by omega, by omega, by omega⟩
  apply sq
  · intro N hN
    simp [a0, hn]; exact hN
  apply sq
  · intro N hN
    simp; exact ⟨_, ⟨ns, 1, 20, by omega, rfl, rfl⟩, hN⟩
  apply sq
  · intro N hN
    simp; exact ⟨_, ⟨ns, 2, 20, by omega, rfl, rfl⟩, hN⟩
  generalize drawsL ns 1 20 = B at *
  generalize drawsL ns 2 20 = C at *
  -- shares
  apply sq
  · intro N hN
    simp [wLc]
    refine ⟨by omega, lc_map (fun (i : Nat) => D.int (0 + i)) (fun (i : Nat) => D.int (shareN (A1 % 4) (B.getD i 0) (C.getD i 0))) (List.range n) (fun i hi Ψ hΨ => ?_) (by have := line_le (show n ≤ 1000000 by omega); simp; omega) hN⟩
    have hi' : i < n := List.mem_range.mp hi
    have b1 := atI_ints (l := B) (i := i) (by omega)
    have c1 := atI_ints (l := C) (i := i) (by omega)
    have hm : A1 % 4 = 0 ∨ A1 % 4 = 1 ∨ A1 % 4 = 2 ∨ A1 % 4 = 3 := by omega
    have hb : B.getD i 0 % 2 = 0 ∨ B.getD i 0 % 2 = 1 := by omega
    generalize B.getD i 0 = b at *
    generalize C.getD i 0 = c at *
    have hsz : 4 ≤ sizeLine := by rw [sizeLine_eq]; decide
    have hsz2 : 2 ≤ sizeLine := by rw [sizeLine_eq]; decide
    simp [elW, b1, c1, a1, mulOk, CMul, CPow, hsz, hsz2]
    unfold shareN at hΨ
    rcases hb with hb | hb <;> rcases hm with hm | hm | hm | hm <;> (simp [hb, hm] at hΨ; simp [hb, hm, atI, ixN]; exact hΨ)
  -- at least one share
  have hS0 : ∀ x ∈ (List.range n).map (fun i => shareN (A1 % 4) (B.getD i 0) (C.getD i 0)), 0 ≤ x ∧ x ≤ 1000000 := by
    intro x hx
    obtain ⟨k, hk, rfl⟩ := List.mem_map.mp hx
    have hk' : k < n := List.mem_range.mp hk
    have := getD_mem mB (show k < B.length by omega)
    exact shareN_bd this.1 this.2
  rw [show (List.range n).map (fun i => D.int (shareN (A1 % 4) (B.getD i 0) (C.getD i 0))) = ((List.range n).map (fun i => shareN (A1 % 4) (B.getD i 0) (C.getD i 0))).map D.int by simp]
  have lS0 : ((List.range n).map (fun i => shareN (A1 % 4) (B.getD i 0) (C.getD i 0))).length = n := by simp
  generalize (List.range n).map (fun i => shareN (A1 % 4) (B.getD i 0) (C.getD i 0)) = S0 at *
  obtain ⟨jj, hjj, hjl⟩ : ∃ j : Nat, A2 % n = (j : Int) ∧ j < n := by
    have h1 := Int.emod_nonneg A2 (show (n : Int) ≠ 0 by omega)
    have h2 := Int.emod_lt_of_pos A2 (show 0 < (n : Int) by omega)
    exact ⟨(A2 % n).toNat, by omega, by omega⟩
  obtain ⟨S, hS⟩ : ∃ S, S = if S0.sum = 0 then S0.set jj 1 else S0 := ⟨_, rfl⟩
  have lS : S.length = n := by rw [hS]; split <;> simp [lS0]
  have mS : ∀ x ∈ S, 0 ≤ x ∧ x ≤ 1000000 := by
    rw [hS]; split
    · intro x hx
      rcases List.mem_or_eq_of_mem_set hx with h | rfl
      · exact hS0 x h
      · omega
    · exact hS0
  have pS : 0 < S.sum := by
    have h0 : 0 ≤ S.sum := sum_nn fun x hx => (mS x hx).1
    rw [hS] at h0 ⊢
    split
    · have h1 : (1 : Int) ∈ S0.set jj 1 := List.mem_iff_getElem.mpr ⟨jj, by simp; omega, by simp⟩
      have h2 : ∀ x ∈ S0.set jj 1, 0 ≤ x := by
        intro x hx
        rcases List.mem_or_eq_of_mem_set hx with h | rfl
        · exact (hS0 x h).1
        · omega
      have := sum_ge h2 1 h1
      omega
    · rename_i h
      rw [if_neg h] at h0
      omega
  have qS : S.sum ≤ 1000000 * n := by
    have := sum_le (B := 1000000) (l := S) fun x hx => (mS x hx).2
    rw [lS] at this; exact this
  apply sq
  · intro N hN
    have e1 : ixN S0.length (jj : Int) = some jj := by simp [ixN, lS0, hjl]
    by_cases h : S0.sum = 0
    · simp [h, a2, hjj]
      refine ⟨by omega, jj, by simpa using e1, ?_⟩
      have e : (S0.map D.int).set jj (D.int 1) = S.map D.int := by rw [hS, if_pos h, List.map_set]
      rw [e]
      exact hN
    · simp [h]
      have e : S0 = S := by rw [hS, if_neg h]
      rw [e]
      exact hN
  simp only [sFrz]
  refine ⟨_, rfl, ?_⟩
  clear hS hS0 lS0
  have hsz : ∀ k : Nat, k ≤ 1000000 → k ≤ sizeLine := fun k hk => Nat.le_of_lt (line_le hk)
  refine sqI (fun Γ => ∃ (c : Int) (x6 x7 x8 x9 x10 x11 x12 x13 x14 x15 x16 x17 x18 : Option Sl), Γ = [some (.val (.scr ns)), some (.val (.lst (A.map .int))), some (.val (.int n)), some (.val (.lst (B.map .int))), some (.val (.lst (C.map .int))), some (.val (.lst (S.map .int))), x6, x7, x8, x9, x10, x11, x12, x13, x14, x15, x16, x17, x18]) ?_ ?_
  · intro N hN
    simp [a3, a4, a5, a6, mulOk, CMul, CPow, hsz]
    rw [show [D.int (A3 % 50), D.int (A4 * 198412), D.int (1000000000 - A5), D.int A6] = [A3 % 50, A4 * 198412, 1000000000 - A5, A6].map D.int by simp]
    refine for_list D.int (fun i Γ => ∃ (x6 x7 x8 x9 x10 x11 x12 x13 x14 x15 x16 x17 x18 : Option Sl), Γ = [some (.val (.scr ns)), some (.val (.lst (A.map .int))), some (.val (.int n)), some (.val (.lst (B.map .int))), some (.val (.lst (C.map .int))), some (.val (.lst (S.map .int))), x6, x7, x8, x9, x10, x11, x12, x13, x14, x15, x16, x17, x18]) [A3 % 50, A4 * 198412, 1000000000 - A5, A6] ⟨_, _, _, _, _, _, _, _, _, _, _, _, _, rfl⟩ ?_ ?_
    · rintro i c Γ N ha ⟨x6, x7, x8, x9, x10, x11, x12, x13, x14, x15, x16, x17, x18, rfl⟩ hN
      have hc : 0 ≤ c ∧ c ≤ 1000000000 := by
        rcases i with _ | _ | _ | _ | i <;> simp at ha <;> omega
      exact b2 lA lS hn1 hn2 (fun x hx => (mS x hx).1) ⟨hc.1, hc.2, by omega, pS, by omega⟩ a7 m7.1 fun y7 y8 y9 y10 y11 y12 y13 y14 y15 y16 y17 y18 => hN _ ⟨_, _, _, _, _, _, _, _, _, _, _, _, _, rfl⟩
    · rintro Γ ⟨x6, x7, x8, x9, x10, x11, x12, x13, x14, x15, x16, x17, x18, rfl⟩
      exact hN _ ⟨0, _, _, _, _, _, _, _, _, _, _, _, _, _, rfl⟩
  rintro Γ ⟨c, x6, x7, x8, x9, x10, x11, x12, x13, x14, x15, x16, x17, x18, rfl⟩
  simp
end DL

set_option Elab.async false
set_option linter.all false
set_option maxRecDepth 100000
set_option maxHeartbeats 4000000
namespace DL
open PySem PySem.Spec PyProof.Rows L2
theorem law_start {K : Fr} {H : Hp} {a : Addr} (ns : List Int) (hl : ns.length ≤ 63) (hS : SqL K H a (ns.map V.int)) : spD false K sp_law [.ref a] H (fun v _ => v = .bl true) fun _ _ _ => False :=
  ⟨H, [.scr ns], .bl true, Same.refl _, .cons (.scr hS) .nil, ⟨ns, rfl, rfl⟩, fun v F' H' g r => r.bl_inv⟩
def topS (i : Nat) : Stmt := PySem.Challenge.pw_juriesagree_k76_whole_costs_of_many_side.main.body.getD i (.Pass ⟨0, 0, 0, 0⟩)
abbrev s_parts_of : Stmt := topS 1
theorem sc_parts_of : FnScope ["costs", "shares", "whole", "found", "known", "paid", "share", "later"] ["costs", "shares"] (defScope s_parts_of) := ⟨rfl, rfl, rfl, by decide +kernel, rfl, by decide +kernel, by decide +kernel⟩
abbrev s_instalments : Stmt := topS 3
theorem sc_instalments : FnScope ["amount", "count", "whole", "left", "k"] ["amount", "count"] (defScope s_instalments) := ⟨rfl, rfl, rfl, by decide +kernel, rfl, by decide +kernel, by decide +kernel⟩
abbrev s_law_cell : Stmt := topS 5
theorem sc_law_cell : FnScope ["script", "k"] ["script", "k"] (defScope s_law_cell) := ⟨rfl, rfl, rfl, by decide +kernel, rfl, by decide +kernel, by decide +kernel⟩
abbrev s_law_numbers : Stmt := topS 6
theorem sc_law_numbers : FnScope ["cell", "count", "limit", "found", "k", "mixed"] ["cell", "count", "limit"] (defScope s_law_numbers) := ⟨rfl, rfl, rfl, by decide +kernel, rfl, by decide +kernel, by decide +kernel⟩
abbrev s_law_same : Stmt := topS 7
theorem sc_law_same : FnScope ["told", "due", "k"] ["told", "due"] (defScope s_law_same) := ⟨rfl, rfl, rfl, by decide +kernel, rfl, by decide +kernel, by decide +kernel⟩
abbrev s_law_draws : Stmt := topS 8
theorem sc_law_draws : FnScope ["script", "k", "count"] ["script", "k", "count"] (defScope s_law_draws) := ⟨rfl, rfl, rfl, by decide +kernel, rfl, by decide +kernel, by decide +kernel⟩
abbrev s_law_due : Stmt := topS 9
theorem sc_law_due : FnScope ["costs", "shares", "whole", "sums", "k"] ["costs", "shares"] (defScope s_law_due) := ⟨rfl, rfl, rfl, by decide +kernel, rfl, by decide +kernel, by decide +kernel⟩
abbrev s_law_groups : Stmt := topS 10
theorem sc_law_groups : FnScope ["count", "draws", "found", "start", "k"] ["count", "draws"] (defScope s_law_groups) := ⟨rfl, rfl, rfl, by decide +kernel, rfl, by decide +kernel, by decide +kernel⟩
abbrev s_law : Stmt := topS 11
theorem sc_law : FnScope ["script", "draws", "count", "cells", "more", "shares", "costs", "due", "handed", "told", "groups", "joined", "plain", "left", "coins", "k", "low", "high", "share"] ["script"] (defScope s_law) := ⟨rfl, rfl, rfl, by decide +kernel, rfl, by decide +kernel, by decide +kernel⟩
structure Tx (K : Fr) (mg : Str → Option Value) (a_parts_of a_instalments a_law_cell a_law_numbers a_law_same a_law_draws a_law_due a_law_groups a_law : Addr) (d_parts_of d_instalments d_law_cell d_law_numbers d_law_same d_law_draws d_law_due d_law_groups d_law : FuncData) : Prop where
  F_parts_of : Fun K "parts_of" "parts_of" s_parts_of a_parts_of d_parts_of
  g_parts_of : mg "parts_of" = some (.ref a_parts_of)
  b_parts_of : Binds K d_parts_of ["costs", "shares"] []
  F_instalments : Fun K "instalments" "instalments" s_instalments a_instalments d_instalments
  g_instalments : mg "instalments" = some (.ref a_instalments)
  b_instalments : Binds K d_instalments ["amount", "count"] []
  F_law_cell : Fun K "_law_cell" "_law_cell" s_law_cell a_law_cell d_law_cell
  g_law_cell : mg "_law_cell" = some (.ref a_law_cell)
  b_law_cell : Binds K d_law_cell ["script", "k"] []
  F_law_numbers : Fun K "_law_numbers" "_law_numbers" s_law_numbers a_law_numbers d_law_numbers
  g_law_numbers : mg "_law_numbers" = some (.ref a_law_numbers)
  b_law_numbers : Binds K d_law_numbers ["cell", "count", "limit"] []
  F_law_same : Fun K "_law_same" "_law_same" s_law_same a_law_same d_law_same
  g_law_same : mg "_law_same" = some (.ref a_law_same)
  b_law_same : Binds K d_law_same ["told", "due"] []
  F_law_draws : Fun K "_law_draws" "_law_draws" s_law_draws a_law_draws d_law_draws
  g_law_draws : mg "_law_draws" = some (.ref a_law_draws)
  b_law_draws : Binds K d_law_draws ["script", "k", "count"] []
  F_law_due : Fun K "_law_due" "_law_due" s_law_due a_law_due d_law_due
  g_law_due : mg "_law_due" = some (.ref a_law_due)
  b_law_due : Binds K d_law_due ["costs", "shares"] []
  F_law_groups : Fun K "_law_groups" "_law_groups" s_law_groups a_law_groups d_law_groups
  g_law_groups : mg "_law_groups" = some (.ref a_law_groups)
  b_law_groups : Binds K d_law_groups ["count", "draws"] []
  F_law : Fun K "law" "law" s_law a_law d_law
  g_law : mg "law" = some (.ref a_law)
  b_law : Binds K d_law ["script"] []
  m_bool : mg "bool" = none
  m_divmod : mg "divmod" = none
  m_int : mg "int" = none
  m_isinstance : mg "isinstance" = none
  m_len : mg "len" = none
  m_list : mg "list" = none
  m_max : mg "max" = none
  m_range : mg "range" = none
  m_sorted : mg "sorted" = none
  m_str : mg "str" = none
  m_sum : mg "sum" = none
  m_tuple : mg "tuple" = none
section
variable {P : Program} {w : World} {K : Fr} {mg : Str → Option Value} {base : Heap} {a_parts_of a_instalments a_law_cell a_law_numbers a_law_same a_law_draws a_law_due a_law_groups a_law : Addr} {d_parts_of d_instalments d_law_cell d_law_numbers d_law_same d_law_draws d_law_due d_law_groups d_law : FuncData}
theorem ok_parts_of (T : Tx K mg a_parts_of a_instalments a_law_cell a_law_numbers a_law_same a_law_draws a_law_due a_law_groups a_law d_parts_of d_instalments d_law_cell d_law_numbers d_law_same d_law_draws d_law_due d_law_groups d_law) : FnOk P w K mg base CX0 1 a_parts_of d_parts_of ["costs", "shares"] (spD false K sp_parts_of) :=
  fnD T.F_parts_of sc_parts_of sp_parts_of_len hf_parts_of fun cdv A outer s H E hr => by
    exact ⟨_, (dss_cons (ds_set 2 sc_parts_of.nd (de_blt (c_sum rfl) d_sum T.m_sum (dab_cons ((de_var 1)).toB dab_nil)))
  (dss_cons (ds_own 3 sc_parts_of.nd (df_lst da_nil))
  (dss_cons (ds_set 4 sc_parts_of.nd de_int)
  (dss_cons (ds_set 5 sc_parts_of.nd de_int)
  (dss_cons (ds_for PassesOwn.never rfl (di_list (de_var 1)) (dg_name 6 sc_parts_of.nd)
  (dss_cons (ds_aug 4 sc_parts_of.nd o_iadd d_addI ((de_var 6)).toB)
  (dss_cons (ds_set 7 sc_parts_of.nd (de_op o_div d_div ((de_op o_mul d_mul ((de_var 0)).toB ((de_var 4)).toB)).toB ((de_var 2)).toB))
  (dss_cons (ds_app 3 (de_op o_sub d_sub ((de_var 7)).toB ((de_var 5)).toB))
  (dss_one (ds_set 5 sc_parts_of.nd (de_var 7)))))))
  (dss_one (ds_retV 3)))))))⟩
theorem ok_instalments (T : Tx K mg a_parts_of a_instalments a_law_cell a_law_numbers a_law_same a_law_draws a_law_due a_law_groups a_law d_parts_of d_instalments d_law_cell d_law_numbers d_law_same d_law_draws d_law_due d_law_groups d_law) : FnOk P w K mg base CX0 1 a_instalments d_instalments ["amount", "count"] (spD false K sp_instalments) :=
  fnD T.F_instalments sc_instalments sp_instalments_len hf_instalments fun cdv A outer s H E hr => by
    exact ⟨_, (dss_cons (ds_asg (de_blt c_divmod d_divmod T.m_divmod (dab_cons ((de_var 0)).toB (dab_cons ((de_var 1)).toB dab_nil))) (dg_tup rfl (dgs_cons (dg_name 2 sc_instalments.nd) (dgs_cons (dg_name 3 sc_instalments.nd) dgs_nil))))
  (dss_one (ds_ret ((df_lc rfl sc_instalments.nd (di_range1 T.m_range (da_cons (de_var 1) da_nil)) (blk_ok ["amount", "count", "whole", "left", "k"] (defScope s_instalments) (by decide +kernel)) (fun _ _ _ _ _ => (dg_name 4 sc_instalments.nd)) (fun _ _ _ _ _ => dts_nil) (fun _ _ _ _ _ => (de_op o_add d_add ((de_var 2)).toB ((de_ty c_int d_int T.m_int (dab_cons ((de_cmp o_lt d_lt ((de_var 4)).toB ((de_var 3)).toB (nomark _))).toB dab_nil))).toB)) (own := [("k", 4)]))).toE)))⟩
theorem ok_law_cell (T : Tx K mg a_parts_of a_instalments a_law_cell a_law_numbers a_law_same a_law_draws a_law_due a_law_groups a_law d_parts_of d_instalments d_law_cell d_law_numbers d_law_same d_law_draws d_law_due d_law_groups d_law) : FnOk P w K mg base CX0 1 a_law_cell d_law_cell ["script", "k"] (spD false K sp_law_cell) :=
  fnD T.F_law_cell sc_law_cell sp_law_cell_len hf_law_cell fun cdv A outer s H E hr => by
    exact ⟨_, (dss_cons (ds_if (dt_cmp o_lt d_lt ((de_var 1)).toB ((de_blt c_len d_len T.m_len (dab_cons ((de_var 0)).toB dab_nil))).toB (nomark _))
  (dss_one (ds_ret (de_ty c_int d_int T.m_int (dab_cons ((de_ix x_seq d_ix ((de_var 0)).toB ((de_var 1)).toB)).toB dab_nil))))
  dss_nil)
  (dss_one (ds_ret de_int)))⟩
theorem ok_law_numbers (T : Tx K mg a_parts_of a_instalments a_law_cell a_law_numbers a_law_same a_law_draws a_law_due a_law_groups a_law d_parts_of d_instalments d_law_cell d_law_numbers d_law_same d_law_draws d_law_due d_law_groups d_law) : FnOk P w K mg base CX0 1 a_law_numbers d_law_numbers ["cell", "count", "limit"] (spD false K sp_law_numbers) :=
  fnD T.F_law_numbers sc_law_numbers sp_law_numbers_len hf_law_numbers fun cdv A outer s H E hr => by
    exact ⟨_, (dss_cons (ds_own 3 sc_law_numbers.nd (df_lst da_nil))
  (dss_cons (ds_if (dt_cmp o_ge d_ge ((de_var 0)).toB ((de_op o_pow d_pow (de_int).toB (de_int).toB)).toB (nomark _))
  (dss_cons (ds_for PassesOwn.never rfl (di_range1 T.m_range (da_cons (de_var 1) da_nil)) (dg_name 4 sc_law_numbers.nd)
  (dss_cons (ds_app 3 (de_op o_mod d_mod ((de_ty c_int d_int T.m_int (dab_cons ((de_var 0)).toB dab_nil))).toB ((de_var 2)).toB))
  (dss_one (ds_set 0 sc_law_numbers.nd (de_op o_div d_div ((de_ty c_int d_int T.m_int (dab_cons ((de_var 0)).toB dab_nil))).toB ((de_var 2)).toB)))))
  (dss_one (ds_retV 3)))
  dss_nil)
  (dss_cons (ds_for PassesOwn.never rfl (di_range1 T.m_range (da_cons (de_var 1) da_nil)) (dg_name 4 sc_law_numbers.nd)
  (dss_cons (ds_set 5 sc_law_numbers.nd (de_op o_mod d_mod ((de_ty c_int d_int T.m_int (dab_cons ((de_op o_add d_add ((de_op o_add d_add ((de_op o_mul d_mul ((de_var 0)).toB (de_int).toB)).toB ((de_op o_mul d_mul ((de_var 4)).toB (de_int).toB)).toB)).toB (de_int).toB)).toB dab_nil))).toB (de_int).toB))
  (dss_cons (ds_set 5 sc_law_numbers.nd (de_op o_mod d_mod ((de_ty c_int d_int T.m_int (dab_cons ((de_op o_add d_add ((de_op o_add d_add ((de_op o_add d_add ((de_op o_mul d_mul ((de_var 5)).toB ((de_var 5)).toB)).toB ((de_op o_mul d_mul ((de_var 5)).toB (de_int).toB)).toB)).toB ((de_op o_mul d_mul ((de_var 4)).toB (de_int).toB)).toB)).toB (de_int).toB)).toB dab_nil))).toB (de_int).toB))
  (dss_one (ds_app 3 (de_op o_mod d_mod ((de_ty c_int d_int T.m_int (dab_cons ((de_op o_div d_div ((de_var 5)).toB (de_int).toB)).toB dab_nil))).toB ((de_var 2)).toB))))))
  (dss_one (ds_retV 3)))))⟩
theorem ok_law_same_rec (T : Tx K mg a_parts_of a_instalments a_law_cell a_law_numbers a_law_same a_law_draws a_law_due a_law_groups a_law d_parts_of d_instalments d_law_cell d_law_numbers d_law_same d_law_draws d_law_due d_law_groups d_law) : ∀ n : Nat, FnOk P w K mg base CX0 (n + 1) a_law_same d_law_same ["told", "due"] (spD false K (sp_law_same_n n))
  | 0 => fnD T.F_law_same sc_law_same sp_law_same_len (hf_law_same 0) fun cdv A outer s H E hr => by
    have G_law_same : FnOk P w K mg base CX0 0 a_law_same d_law_same ["told", "due"] (spD false K fun _ _ => False) := ⟨fun vs H Q E h => (let ⟨_, _, _, _, _, z, _⟩ := h; z.elim), fun A outer s H args us vs Q E hr he hb hv h => (let ⟨_, _, _, _, _, z, _⟩ := h; z.elim)⟩
    exact ⟨_, (dss_cons (ds_if (dt_tru ((de_isi (T := "list") ((de_var 1)).toB T.m_isinstance T.m_list (by decide +kernel) kit_list)).toB)
  (dss_one (ds_if ((dw_or (dt_not (dt_tru ((de_isi (T := "list") ((de_var 0)).toB T.m_isinstance T.m_list (by decide +kernel) kit_list)).toB)) (dw_or1 (dt_cmp (o_ne hr) d_ne ((de_blt c_len d_len T.m_len (dab_cons ((de_var 0)).toB dab_nil))).toB ((de_blt c_len d_len T.m_len (dab_cons ((de_var 1)).toB dab_nil))).toB (nomark _))))).toT
  (dss_one (ds_ret de_bl))
  dss_nil))
  (dss_one (ds_if (dt_tru ((de_isi (T := "tuple") ((de_var 1)).toB T.m_isinstance T.m_tuple (by decide +kernel) kit_tuple)).toB)
  (dss_one (ds_if ((dw_or (dt_not (dt_tru ((de_isi (T := "tuple") ((de_var 0)).toB T.m_isinstance T.m_tuple (by decide +kernel) kit_tuple)).toB)) (dw_or1 (dt_cmp (o_ne hr) d_ne ((de_blt c_len d_len T.m_len (dab_cons ((de_var 0)).toB dab_nil))).toB ((de_blt c_len d_len T.m_len (dab_cons ((de_var 1)).toB dab_nil))).toB (nomark _))))).toT
  (dss_one (ds_ret de_bl))
  dss_nil))
  (dss_one (ds_if (dt_isN ((de_var 1)).toB)
  (dss_one (ds_ret (de_isN ((de_var 0)).toB)))
  (dss_one (ds_if (dt_tru ((de_isi (T := "bool") ((de_var 1)).toB T.m_isinstance T.m_bool (by decide +kernel) kit_bool)).toB)
  (dss_one (ds_ret (de_and (de_isi (T := "bool") ((de_var 0)).toB T.m_isinstance T.m_bool (by decide +kernel) kit_bool) (de_one (de_cmp (o_eq hr) d_eq ((de_var 0)).toB ((de_var 1)).toB (nomark _))))))
  (dss_one (ds_if (dt_tru ((de_isi (T := "int") ((de_var 1)).toB T.m_isinstance T.m_int (by decide +kernel) kit_int)).toB)
  (dss_one (ds_ret (de_and (de_isi (T := "int") ((de_var 0)).toB T.m_isinstance T.m_int (by decide +kernel) kit_int) (de_and (de_notT ((de_isi (T := "bool") ((de_var 0)).toB T.m_isinstance T.m_bool (by decide +kernel) kit_bool)).toB) (de_one (de_cmp (o_eq hr) d_eq ((de_var 0)).toB ((de_var 1)).toB (nomark _)))))))
  (dss_one (ds_ret (de_and (de_isi (T := "str") ((de_var 0)).toB T.m_isinstance T.m_str (by decide +kernel) kit_str) (de_one (de_cmp (o_eq hr) d_eq ((de_var 0)).toB ((de_var 1)).toB (nomark _)))))))))))))))
  (dss_cons (ds_for PassesOwn.never rfl (di_range1 T.m_range (da_cons (de_blt c_len d_len T.m_len (dab_cons ((de_var 1)).toB dab_nil)) da_nil)) (dg_name 2 sc_law_same.nd)
  (dss_one (ds_if (dt_not (dt_tru ((de_call G_law_same hr T.g_law_same T.F_law_same.kp T.b_law_same (da_cons (de_ix x_seq d_ix ((de_var 0)).toB ((de_var 2)).toB) (da_cons (de_ix x_seq d_ix ((de_var 1)).toB ((de_var 2)).toB) da_nil)))).toB))
  (dss_one (ds_ret de_bl))
  dss_nil)))
  (dss_one (ds_ret de_bl))))⟩
  | n + 1 => fnD T.F_law_same sc_law_same sp_law_same_len (hf_law_same (n + 1)) fun cdv A outer s H E hr => by
    have G_law_same := ok_law_same_rec T n
    exact ⟨_, (dss_cons (ds_if (dt_tru ((de_isi (T := "list") ((de_var 1)).toB T.m_isinstance T.m_list (by decide +kernel) kit_list)).toB)
  (dss_one (ds_if ((dw_or (dt_not (dt_tru ((de_isi (T := "list") ((de_var 0)).toB T.m_isinstance T.m_list (by decide +kernel) kit_list)).toB)) (dw_or1 (dt_cmp (o_ne hr) d_ne ((de_blt c_len d_len T.m_len (dab_cons ((de_var 0)).toB dab_nil))).toB ((de_blt c_len d_len T.m_len (dab_cons ((de_var 1)).toB dab_nil))).toB (nomark _))))).toT
  (dss_one (ds_ret de_bl))
  dss_nil))
  (dss_one (ds_if (dt_tru ((de_isi (T := "tuple") ((de_var 1)).toB T.m_isinstance T.m_tuple (by decide +kernel) kit_tuple)).toB)
  (dss_one (ds_if ((dw_or (dt_not (dt_tru ((de_isi (T := "tuple") ((de_var 0)).toB T.m_isinstance T.m_tuple (by decide +kernel) kit_tuple)).toB)) (dw_or1 (dt_cmp (o_ne hr) d_ne ((de_blt c_len d_len T.m_len (dab_cons ((de_var 0)).toB dab_nil))).toB ((de_blt c_len d_len T.m_len (dab_cons ((de_var 1)).toB dab_nil))).toB (nomark _))))).toT
  (dss_one (ds_ret de_bl))
  dss_nil))
  (dss_one (ds_if (dt_isN ((de_var 1)).toB)
  (dss_one (ds_ret (de_isN ((de_var 0)).toB)))
  (dss_one (ds_if (dt_tru ((de_isi (T := "bool") ((de_var 1)).toB T.m_isinstance T.m_bool (by decide +kernel) kit_bool)).toB)
  (dss_one (ds_ret (de_and (de_isi (T := "bool") ((de_var 0)).toB T.m_isinstance T.m_bool (by decide +kernel) kit_bool) (de_one (de_cmp (o_eq hr) d_eq ((de_var 0)).toB ((de_var 1)).toB (nomark _))))))
  (dss_one (ds_if (dt_tru ((de_isi (T := "int") ((de_var 1)).toB T.m_isinstance T.m_int (by decide +kernel) kit_int)).toB)
  (dss_one (ds_ret (de_and (de_isi (T := "int") ((de_var 0)).toB T.m_isinstance T.m_int (by decide +kernel) kit_int) (de_and (de_notT ((de_isi (T := "bool") ((de_var 0)).toB T.m_isinstance T.m_bool (by decide +kernel) kit_bool)).toB) (de_one (de_cmp (o_eq hr) d_eq ((de_var 0)).toB ((de_var 1)).toB (nomark _)))))))
  (dss_one (ds_ret (de_and (de_isi (T := "str") ((de_var 0)).toB T.m_isinstance T.m_str (by decide +kernel) kit_str) (de_one (de_cmp (o_eq hr) d_eq ((de_var 0)).toB ((de_var 1)).toB (nomark _)))))))))))))))
  (dss_cons (ds_for PassesOwn.never rfl (di_range1 T.m_range (da_cons (de_blt c_len d_len T.m_len (dab_cons ((de_var 1)).toB dab_nil)) da_nil)) (dg_name 2 sc_law_same.nd)
  (dss_one (ds_if (dt_not (dt_tru ((de_call G_law_same hr T.g_law_same T.F_law_same.kp T.b_law_same (da_cons (de_ix x_seq d_ix ((de_var 0)).toB ((de_var 2)).toB) (da_cons (de_ix x_seq d_ix ((de_var 1)).toB ((de_var 2)).toB) da_nil)))).toB))
  (dss_one (ds_ret de_bl))
  dss_nil)))
  (dss_one (ds_ret de_bl))))⟩
theorem ok_law_same (T : Tx K mg a_parts_of a_instalments a_law_cell a_law_numbers a_law_same a_law_draws a_law_due a_law_groups a_law d_parts_of d_instalments d_law_cell d_law_numbers d_law_same d_law_draws d_law_due d_law_groups d_law) : FnOk P w K mg base CX0 9 a_law_same d_law_same ["told", "due"] (spD false K sp_law_same) := ok_law_same_rec T 8
theorem ok_law_draws (T : Tx K mg a_parts_of a_instalments a_law_cell a_law_numbers a_law_same a_law_draws a_law_due a_law_groups a_law d_parts_of d_instalments d_law_cell d_law_numbers d_law_same d_law_draws d_law_due d_law_groups d_law) : FnOk P w K mg base CX0 2 a_law_draws d_law_draws ["script", "k", "count"] (spD false K sp_law_draws) :=
  fnD T.F_law_draws sc_law_draws sp_law_draws_len hf_law_draws fun cdv A outer s H E hr => by
    have G_law_cell := (ok_law_cell (P := P) (w := w) (base := base) T).mono (show 1 ≤ 1 by decide)
    have G_law_numbers := (ok_law_numbers (P := P) (w := w) (base := base) T).mono (show 1 ≤ 1 by decide)
    exact ⟨_, (dss_one (ds_ret (de_call G_law_numbers hr T.g_law_numbers T.F_law_numbers.kp T.b_law_numbers (da_cons (de_op o_add d_add ((de_call G_law_cell hr T.g_law_cell T.F_law_cell.kp T.b_law_cell (da_cons (de_var 0) (da_cons (de_var 1) da_nil)))).toB ((de_op o_mul d_mul (de_int).toB ((de_var 1)).toB)).toB) (da_cons (de_var 2) (da_cons de_int da_nil))))))⟩
theorem ok_law_due (T : Tx K mg a_parts_of a_instalments a_law_cell a_law_numbers a_law_same a_law_draws a_law_due a_law_groups a_law d_parts_of d_instalments d_law_cell d_law_numbers d_law_same d_law_draws d_law_due d_law_groups d_law) : FnOk P w K mg base CX0 1 a_law_due d_law_due ["costs", "shares"] (spD false K sp_law_due) :=
  fnD T.F_law_due sc_law_due sp_law_due_len hf_law_due fun cdv A outer s H E hr => by
    exact ⟨_, (dss_cons (ds_set 2 sc_law_due.nd (de_blt (c_sum rfl) d_sum T.m_sum (dab_cons ((de_var 1)).toB dab_nil)))
  (dss_cons (ds_set 3 sc_law_due.nd ((df_lc rfl sc_law_due.nd (di_range1 T.m_range (da_cons (de_op o_add d_add ((de_blt c_len d_len T.m_len (dab_cons ((de_var 1)).toB dab_nil))).toB (de_int).toB) da_nil)) (blk_ok ["costs", "shares", "whole", "sums", "k"] (defScope s_law_due) (by decide +kernel)) (fun _ _ _ _ _ => (dg_name 4 sc_law_due.nd)) (fun _ _ _ _ _ => dts_nil) (fun _ _ _ _ _ => (de_op o_div d_div ((de_op o_mul d_mul ((de_var 0)).toB ((de_blt (c_sum rfl) d_sum T.m_sum (dab_cons ((df_slice ((de_var 1)).toB (do_some de_int) (do_some (de_var 4)))).toB dab_nil))).toB)).toB ((de_var 2)).toB)) (own := [("k", 4)]))).toE)
  (dss_one (ds_ret ((df_lc rfl sc_law_due.nd (di_range1 T.m_range (da_cons (de_blt c_len d_len T.m_len (dab_cons ((de_var 1)).toB dab_nil)) da_nil)) (blk_ok ["costs", "shares", "whole", "sums", "k"] (defScope s_law_due) (by decide +kernel)) (fun _ _ _ _ _ => (dg_name 4 sc_law_due.nd)) (fun _ _ _ _ _ => dts_nil) (fun _ _ _ _ _ => (de_op o_sub d_sub ((de_ix x_seq d_ix ((de_var 3)).toB ((de_op o_add d_add ((de_var 4)).toB (de_int).toB)).toB)).toB ((de_ix x_seq d_ix ((de_var 3)).toB ((de_var 4)).toB)).toB)) (own := [("k", 4)]))).toE))))⟩
theorem ok_law_groups (T : Tx K mg a_parts_of a_instalments a_law_cell a_law_numbers a_law_same a_law_draws a_law_due a_law_groups a_law d_parts_of d_instalments d_law_cell d_law_numbers d_law_same d_law_draws d_law_due d_law_groups d_law) : FnOk P w K mg base CX0 1 a_law_groups d_law_groups ["count", "draws"] (spD false K sp_law_groups) :=
  fnD T.F_law_groups sc_law_groups sp_law_groups_len hf_law_groups fun cdv A outer s H E hr => by
    exact ⟨_, (dss_cons (ds_own 2 sc_law_groups.nd (df_lst da_nil))
  (dss_cons (ds_set 3 sc_law_groups.nd de_int)
  (dss_cons (ds_for PassesOwn.never rfl (di_range1 T.m_range (da_cons (de_var 0) da_nil)) (dg_name 4 sc_law_groups.nd)
  (dss_one (ds_if ((dw_and (dt_cmp o_gt d_gt ((de_var 4)).toB ((de_var 3)).toB (nomark _)) (dw_and1 (dt_cmp (o_eq hr) d_eq ((de_op o_mod d_mod ((de_ix x_seq d_ix ((de_var 1)).toB ((de_var 4)).toB)).toB (de_int).toB)).toB (de_int).toB (nomark _))))).toT
  (dss_cons (ds_app 2 (de_tup (da_cons (de_var 3) (da_cons (de_var 4) da_nil))))
  (dss_one (ds_set 3 sc_law_groups.nd (de_var 4))))
  dss_nil)))
  (ds_frz 2 (dss_one (ds_ret (de_op o_add d_add ((de_var 2)).toB ((df_lst (da_cons (de_tup (da_cons (de_var 3) (da_cons (de_var 0) da_nil))) da_nil))).toB)))))))⟩
theorem ok_law (T : Tx K mg a_parts_of a_instalments a_law_cell a_law_numbers a_law_same a_law_draws a_law_due a_law_groups a_law d_parts_of d_instalments d_law_cell d_law_numbers d_law_same d_law_draws d_law_due d_law_groups d_law) : FnOk P w K mg base CX0 10 a_law d_law ["script"] (spD false K sp_law) :=
  fnD T.F_law sc_law sp_law_len hf_law fun cdv A outer s H E hr => by
    have G_law_draws := (ok_law_draws (P := P) (w := w) (base := base) T).mono (show 2 ≤ 9 by decide)
    have G_law_due := (ok_law_due (P := P) (w := w) (base := base) T).mono (show 1 ≤ 9 by decide)
    have G_law_groups := (ok_law_groups (P := P) (w := w) (base := base) T).mono (show 1 ≤ 9 by decide)
    have G_law_same := (ok_law_same (P := P) (w := w) (base := base) T).mono (show 9 ≤ 9 by decide)
    have G_instalments := (ok_instalments (P := P) (w := w) (base := base) T).mono (show 1 ≤ 9 by decide)
    have G_parts_of := (ok_parts_of (P := P) (w := w) (base := base) T).mono (show 1 ≤ 9 by decide)
    exact ⟨_, (dss_cons (ds_set 1 sc_law.nd (de_call G_law_draws hr T.g_law_draws T.F_law_draws.kp T.b_law_draws (da_cons (de_var 0) (da_cons de_int (da_cons de_int da_nil)))))
  (dss_cons (ds_set 2 sc_law.nd (de_op o_add d_add (de_int).toB ((de_op o_mod d_mod ((de_ix x_seq d_ix ((de_var 1)).toB (de_int).toB)).toB (de_int).toB)).toB))
  (dss_cons (ds_set 3 sc_law.nd (de_call G_law_draws hr T.g_law_draws T.F_law_draws.kp T.b_law_draws (da_cons (de_var 0) (da_cons de_int (da_cons de_int da_nil)))))
  (dss_cons (ds_set 4 sc_law.nd (de_call G_law_draws hr T.g_law_draws T.F_law_draws.kp T.b_law_draws (da_cons (de_var 0) (da_cons de_int (da_cons de_int da_nil)))))
  (dss_cons (ds_own 5 sc_law.nd (df_lc rfl sc_law.nd (di_range1 T.m_range (da_cons (de_var 2) da_nil)) (blk_ok ["script", "draws", "count", "cells", "more", "shares", "costs", "due", "handed", "told", "groups", "joined", "plain", "left", "coins", "k", "low", "high", "share"] (defScope s_law) (by decide +kernel)) (fun _ _ _ _ _ => (dg_name 15 sc_law.nd)) (fun _ _ _ _ _ => dts_nil) (fun _ _ _ _ _ => (de_ix x_seq d_ix ((df_lst (da_cons (de_op o_mod d_mod ((de_ix x_seq d_ix ((de_var 3)).toB ((de_var 15)).toB)).toB (de_int).toB) (da_cons (de_op o_mod d_mod ((de_ix x_seq d_ix ((de_var 3)).toB ((de_var 15)).toB)).toB (de_int).toB) (da_cons (de_op o_add d_add ((de_op o_mul d_mul ((de_ix x_seq d_ix ((de_var 3)).toB ((de_var 15)).toB)).toB (de_int).toB)).toB ((de_op o_mod d_mod ((de_ix x_seq d_ix ((de_var 4)).toB ((de_var 15)).toB)).toB (de_int).toB)).toB) (da_cons (de_ix x_seq d_ix ((df_lst (da_cons de_int (da_cons (de_op o_pow d_pow (de_int).toB (de_int).toB) da_nil)))).toB ((de_op o_mod d_mod ((de_ix x_seq d_ix ((de_var 3)).toB ((de_var 15)).toB)).toB (de_int).toB)).toB) da_nil)))))).toB ((de_op o_mod d_mod ((de_ix x_seq d_ix ((de_var 1)).toB (de_int).toB)).toB (de_int).toB)).toB)) (own := [("k", 15)])))
  (dss_cons (ds_if (dt_cmp (o_eq hr) d_eq ((de_blt (c_sum rfl) d_sum T.m_sum (dab_cons (db_var 5) dab_nil))).toB (de_int).toB (nomark _))
  (dss_one (ds_put 5 de_int (de_op o_mod d_mod ((de_ix x_seq d_ix ((de_var 1)).toB (de_int).toB)).toB ((de_var 2)).toB)))
  dss_nil)
  (ds_frz 5 (dss_cons (ds_for PassesOwn.never rfl (di_list ((df_lst (da_cons (de_op o_mod d_mod ((de_ix x_seq d_ix ((de_var 1)).toB (de_int).toB)).toB (de_int).toB) (da_cons (de_op o_mul d_mul ((de_ix x_seq d_ix ((de_var 1)).toB (de_int).toB)).toB (de_int).toB) (da_cons (de_op o_sub d_sub ((de_op o_pow d_pow (de_int).toB (de_int).toB)).toB ((de_ix x_seq d_ix ((de_var 1)).toB (de_int).toB)).toB) (da_cons (de_ix x_seq d_ix ((de_var 1)).toB (de_int).toB) da_nil)))))).toE) (dg_name 6 sc_law.nd)
  (dss_cons (ds_set 7 sc_law.nd (de_call G_law_due hr T.g_law_due T.F_law_due.kp T.b_law_due (da_cons (de_var 6) (da_cons (de_var 5) da_nil))))
  (dss_cons (ds_set 8 sc_law.nd ((df_ty c_list f_list T.m_list (dab_cons ((de_var 5)).toB dab_nil))).toE)
  (dss_cons (ds_set 9 sc_law.nd (de_call G_parts_of hr T.g_parts_of T.F_parts_of.kp T.b_parts_of (da_cons (de_var 6) (da_cons (de_var 8) da_nil))))
  (dss_cons (ds_if ((dw_or (dt_not (dt_tru ((de_call G_law_same hr T.g_law_same T.F_law_same.kp T.b_law_same (da_cons (de_var 9) (da_cons (de_var 7) da_nil)))).toB)) (dw_or (dt_cmp (o_ne hr) d_ne ((de_var 8)).toB ((de_var 5)).toB (nomark _)) (dw_or1 (dt_cmp (o_ne hr) d_ne ((de_blt (c_sum rfl) d_sum T.m_sum (dab_cons ((de_var 9)).toB dab_nil))).toB ((de_var 6)).toB (nomark _)))))).toT
  (dss_one (ds_ret de_bl))
  dss_nil)
  (dss_cons (ds_for PassesOwn.never rfl (di_list ((df_lst (da_cons (de_call G_law_groups hr T.g_law_groups T.F_law_groups.kp T.b_law_groups (da_cons (de_var 2) (da_cons ((df_slice ((de_var 1)).toB (do_some de_int) do_none)).toE da_nil))) (da_cons ((df_lst (da_cons (de_tup (da_cons de_int (da_cons (de_op o_div d_div ((de_var 2)).toB (de_int).toB) da_nil))) (da_cons (de_tup (da_cons (de_op o_div d_div ((de_var 2)).toB (de_int).toB) (da_cons (de_var 2) da_nil))) da_nil)))).toE da_nil)))).toE) (dg_name 10 sc_law.nd)
  (dss_cons (ds_setLc 11 rfl sc_law.nd (di_list (de_var 10)) (blk_ok ["script", "draws", "count", "cells", "more", "shares", "costs", "due", "handed", "told", "groups", "joined", "plain", "left", "coins", "k", "low", "high", "share"] (defScope s_law) (by decide +kernel)) (fun _ _ _ _ _ => (dg_tup rfl (dgs_cons (dg_name 16 sc_law.nd) (dgs_cons (dg_name 17 sc_law.nd) dgs_nil)))) (fun _ _ _ _ _ => dts_nil) (fun _ _ _ _ _ => (de_blt (c_sum rfl) d_sum T.m_sum (dab_cons ((df_slice ((de_var 5)).toB (do_some (de_var 16)) (do_some (de_var 17)))).toB dab_nil))) (own := [("low", 16), ("high", 17)]))
  (dss_one (ds_if ((dw_and (dt_cmp o_le d_le ((de_blt (c_maxL rfl) d_maxL T.m_max (dab_cons ((de_var 11)).toB dab_nil))).toB ((de_op o_pow d_pow (de_int).toB (de_int).toB)).toB (nomark _)) (dw_and1 (dt_not (dt_tru ((de_call G_law_same hr T.g_law_same T.F_law_same.kp T.b_law_same (da_cons (de_call G_parts_of hr T.g_parts_of T.F_parts_of.kp T.b_parts_of (da_cons (de_var 6) (da_cons (de_var 11) da_nil))) (da_cons ((df_lc rfl sc_law.nd (di_list (de_var 10)) (blk_ok ["script", "draws", "count", "cells", "more", "shares", "costs", "due", "handed", "told", "groups", "joined", "plain", "left", "coins", "k", "low", "high", "share"] (defScope s_law) (by decide +kernel)) (fun _ _ _ _ _ => (dg_tup rfl (dgs_cons (dg_name 16 sc_law.nd) (dgs_cons (dg_name 17 sc_law.nd) dgs_nil)))) (fun _ _ _ _ _ => dts_nil) (fun _ _ _ _ _ => (de_blt (c_sum rfl) d_sum T.m_sum (dab_cons ((df_slice ((de_var 7)).toB (do_some (de_var 16)) (do_some (de_var 17)))).toB dab_nil))) (own := [("low", 16), ("high", 17)]))).toE da_nil)))).toB))))).toT
  (dss_one (ds_ret de_bl))
  dss_nil))))
  (dss_cons (ds_setLc 12 rfl sc_law.nd (di_list (de_var 5)) (blk_ok ["script", "draws", "count", "cells", "more", "shares", "costs", "due", "handed", "told", "groups", "joined", "plain", "left", "coins", "k", "low", "high", "share"] (defScope s_law) (by decide +kernel)) (fun _ _ _ _ _ => (dg_name 18 sc_law.nd)) (fun _ _ _ _ _ => (dts_one (dt_cmp o_gt d_gt ((de_var 18)).toB (de_int).toB (nomark _)))) (fun _ _ _ _ _ => (de_var 18)) (own := [("share", 18)]))
  (dss_cons (ds_if (dt_not (dt_tru ((de_call G_law_same hr T.g_law_same T.F_law_same.kp T.b_law_same (da_cons (de_call G_parts_of hr T.g_parts_of T.F_parts_of.kp T.b_parts_of (da_cons (de_var 6) (da_cons (de_var 12) da_nil))) (da_cons ((df_lc rfl sc_law.nd (di_range1 T.m_range (da_cons (de_var 2) da_nil)) (blk_ok ["script", "draws", "count", "cells", "more", "shares", "costs", "due", "handed", "told", "groups", "joined", "plain", "left", "coins", "k", "low", "high", "share"] (defScope s_law) (by decide +kernel)) (fun _ _ _ _ _ => (dg_name 15 sc_law.nd)) (fun _ _ _ _ _ => (dts_one (dt_cmp o_gt d_gt ((de_ix x_seq d_ix ((de_var 5)).toB ((de_var 15)).toB)).toB (de_int).toB (nomark _)))) (fun _ _ _ _ _ => (de_ix x_seq d_ix ((de_var 7)).toB ((de_var 15)).toB)) (own := [("k", 15)]))).toE da_nil)))).toB))
  (dss_one (ds_ret de_bl))
  dss_nil)
  (dss_cons (ds_set 13 sc_law.nd (de_op o_sub d_sub ((de_var 6)).toB ((de_op o_mul d_mul ((de_op o_div d_div ((de_var 6)).toB ((de_var 2)).toB)).toB ((de_var 2)).toB)).toB))
  (dss_cons (ds_setLc 14 rfl sc_law.nd (di_range1 T.m_range (da_cons (de_var 2) da_nil)) (blk_ok ["script", "draws", "count", "cells", "more", "shares", "costs", "due", "handed", "told", "groups", "joined", "plain", "left", "coins", "k", "low", "high", "share"] (defScope s_law) (by decide +kernel)) (fun _ _ _ _ _ => (dg_name 15 sc_law.nd)) (fun _ _ _ _ _ => dts_nil) (fun _ _ _ _ _ => (de_op o_add d_add ((de_op o_div d_div ((de_var 6)).toB ((de_var 2)).toB)).toB ((de_ty c_int d_int T.m_int (dab_cons ((de_cmp o_lt d_lt ((de_var 15)).toB ((de_var 13)).toB (nomark _))).toB dab_nil))).toB)) (own := [("k", 15)]))
  (dss_cons (ds_if (dt_not (dt_tru ((de_call G_law_same hr T.g_law_same T.F_law_same.kp T.b_law_same (da_cons (de_call G_instalments hr T.g_instalments T.F_instalments.kp T.b_instalments (da_cons (de_var 6) (da_cons (de_var 2) da_nil))) (da_cons (de_var 14) da_nil)))).toB))
  (dss_one (ds_ret de_bl))
  dss_nil)
  (dss_one (ds_if (dt_cmp (o_ne hr) d_ne ((df_blt c_sortI f_sortI T.m_sorted (dab_cons ((de_call G_parts_of hr T.g_parts_of T.F_parts_of.kp T.b_parts_of (da_cons (de_var 6) (da_cons ((df_lc rfl sc_law.nd (di_range1 T.m_range (da_cons (de_var 2) da_nil)) (blk_ok ["script", "draws", "count", "cells", "more", "shares", "costs", "due", "handed", "told", "groups", "joined", "plain", "left", "coins", "k", "low", "high", "share"] (defScope s_law) (by decide +kernel)) (fun _ _ _ _ _ => (dg_name 15 sc_law.nd)) (fun _ _ _ _ _ => dts_nil) (fun _ _ _ _ _ => (de_op o_add d_add (de_int).toB ((de_op o_mod d_mod ((de_ix x_seq d_ix ((de_var 1)).toB (de_int).toB)).toB (de_int).toB)).toB)) (own := [("k", 15)]))).toE da_nil)))).toB dab_nil))).toB ((df_blt c_sortI f_sortI T.m_sorted (dab_cons ((de_var 14)).toB dab_nil))).toB (nomark _))
  (dss_one (ds_ret de_bl))
  dss_nil)))))))))))))
  (dss_one (ds_ret de_bl))))))))))⟩
end
theorem all_mk {l : PySem.W.OpenLaw} {w : World} {K : PySem.W.Frag} {h : Heap} {mg : Str → Option Value} {fa f0 f1 f2 f3 f4 f5 f6 f7 f8 : Addr} (X : K.In h) (G : h.Ns mainGlobals mg) (hfa : mg "law" = some (.ref fa))
    {od0 an0 : Option Addr} {sl0 : Array (Option Value)} {oc0 kV0 dc0 pm0 cd0 ct0 : Value} {od1 an1 : Option Addr} {sl1 : Array (Option Value)} {oc1 kV1 dc1 pm1 cd1 ct1 : Value} {od2 an2 : Option Addr} {sl2 : Array (Option Value)} {oc2 kV2 dc2 pm2 cd2 ct2 : Value} {od3 an3 : Option Addr} {sl3 : Array (Option Value)} {oc3 kV3 dc3 pm3 cd3 ct3 : Value} {od4 an4 : Option Addr} {sl4 : Array (Option Value)} {oc4 kV4 dc4 pm4 cd4 ct4 : Value} {od5 an5 : Option Addr} {sl5 : Array (Option Value)} {oc5 kV5 dc5 pm5 cd5 ct5 : Value} {od6 an6 : Option Addr} {sl6 : Array (Option Value)} {oc6 kV6 dc6 pm6 cd6 ct6 : Value} {od7 an7 : Option Addr} {sl7 : Array (Option Value)} {oc7 kV7 dc7 pm7 cd7 ct7 : Value} {od8 an8 : Option Addr} {sl8 : Array (Option Value)} {oc8 kV8 dc8 pm8 cd8 ct8 : Value}
    (a0 : PySem.W.nsIn K mainGlobals "parts_of" = some (some (.ref f0))) (l0 : K.lookup f0 = some ⟨oc0, od0, .func (PySem.W.fnOf "parts_of" "parts_of" (defArgs s_parts_of) (defBody s_parts_of) (defScope s_parts_of) .none kV0 dc0 pm0 an0 cd0 ct0), sl0⟩) (c0 : PySem.W.codeIn K cd0 "parts_of" = true) (k0 : PySem.W.keepIn K (.ref f0) = true)
    (a1 : PySem.W.nsIn K mainGlobals "instalments" = some (some (.ref f1))) (l1 : K.lookup f1 = some ⟨oc1, od1, .func (PySem.W.fnOf "instalments" "instalments" (defArgs s_instalments) (defBody s_instalments) (defScope s_instalments) .none kV1 dc1 pm1 an1 cd1 ct1), sl1⟩) (c1 : PySem.W.codeIn K cd1 "instalments" = true) (k1 : PySem.W.keepIn K (.ref f1) = true)
    (a2 : PySem.W.nsIn K mainGlobals "_law_cell" = some (some (.ref f2))) (l2 : K.lookup f2 = some ⟨oc2, od2, .func (PySem.W.fnOf "_law_cell" "_law_cell" (defArgs s_law_cell) (defBody s_law_cell) (defScope s_law_cell) .none kV2 dc2 pm2 an2 cd2 ct2), sl2⟩) (c2 : PySem.W.codeIn K cd2 "_law_cell" = true) (k2 : PySem.W.keepIn K (.ref f2) = true)
    (a3 : PySem.W.nsIn K mainGlobals "_law_numbers" = some (some (.ref f3))) (l3 : K.lookup f3 = some ⟨oc3, od3, .func (PySem.W.fnOf "_law_numbers" "_law_numbers" (defArgs s_law_numbers) (defBody s_law_numbers) (defScope s_law_numbers) .none kV3 dc3 pm3 an3 cd3 ct3), sl3⟩) (c3 : PySem.W.codeIn K cd3 "_law_numbers" = true) (k3 : PySem.W.keepIn K (.ref f3) = true)
    (a4 : PySem.W.nsIn K mainGlobals "_law_same" = some (some (.ref f4))) (l4 : K.lookup f4 = some ⟨oc4, od4, .func (PySem.W.fnOf "_law_same" "_law_same" (defArgs s_law_same) (defBody s_law_same) (defScope s_law_same) .none kV4 dc4 pm4 an4 cd4 ct4), sl4⟩) (c4 : PySem.W.codeIn K cd4 "_law_same" = true) (k4 : PySem.W.keepIn K (.ref f4) = true)
    (a5 : PySem.W.nsIn K mainGlobals "_law_draws" = some (some (.ref f5))) (l5 : K.lookup f5 = some ⟨oc5, od5, .func (PySem.W.fnOf "_law_draws" "_law_draws" (defArgs s_law_draws) (defBody s_law_draws) (defScope s_law_draws) .none kV5 dc5 pm5 an5 cd5 ct5), sl5⟩) (c5 : PySem.W.codeIn K cd5 "_law_draws" = true) (k5 : PySem.W.keepIn K (.ref f5) = true)
    (a6 : PySem.W.nsIn K mainGlobals "_law_due" = some (some (.ref f6))) (l6 : K.lookup f6 = some ⟨oc6, od6, .func (PySem.W.fnOf "_law_due" "_law_due" (defArgs s_law_due) (defBody s_law_due) (defScope s_law_due) .none kV6 dc6 pm6 an6 cd6 ct6), sl6⟩) (c6 : PySem.W.codeIn K cd6 "_law_due" = true) (k6 : PySem.W.keepIn K (.ref f6) = true)
    (a7 : PySem.W.nsIn K mainGlobals "_law_groups" = some (some (.ref f7))) (l7 : K.lookup f7 = some ⟨oc7, od7, .func (PySem.W.fnOf "_law_groups" "_law_groups" (defArgs s_law_groups) (defBody s_law_groups) (defScope s_law_groups) .none kV7 dc7 pm7 an7 cd7 ct7), sl7⟩) (c7 : PySem.W.codeIn K cd7 "_law_groups" = true) (k7 : PySem.W.keepIn K (.ref f7) = true)
    (a8 : PySem.W.nsIn K mainGlobals "law" = some (some (.ref f8))) (l8 : K.lookup f8 = some ⟨oc8, od8, .func (PySem.W.fnOf "law" "law" (defArgs s_law) (defBody s_law) (defScope s_law) .none kV8 dc8 pm8 an8 cd8 ct8), sl8⟩) (c8 : PySem.W.codeIn K cd8 "law" = true) (k8 : PySem.W.keepIn K (.ref f8) = true)
    (z0 : PySem.W.nsIn K mainGlobals "bool" = some none)
    (z1 : PySem.W.nsIn K mainGlobals "divmod" = some none)
    (z2 : PySem.W.nsIn K mainGlobals "int" = some none)
    (z3 : PySem.W.nsIn K mainGlobals "isinstance" = some none)
    (z4 : PySem.W.nsIn K mainGlobals "len" = some none)
    (z5 : PySem.W.nsIn K mainGlobals "list" = some none)
    (z6 : PySem.W.nsIn K mainGlobals "max" = some none)
    (z7 : PySem.W.nsIn K mainGlobals "range" = some none)
    (z8 : PySem.W.nsIn K mainGlobals "sorted" = some none)
    (z9 : PySem.W.nsIn K mainGlobals "str" = some none)
    (z10 : PySem.W.nsIn K mainGlobals "sum" = some none)
    (z11 : PySem.W.nsIn K mainGlobals "tuple" = some none)
    : ∃ fd : FuncData, (∀ (s : Shared) (v : Value), BindsTo s fd ⟨[v], []⟩ [("script", v)]) ∧ ∀ base : Heap, K.In base → base.Ns mainGlobals mg → FnOk l.prog w K mg base CX0 10 fa fd ["script"] (spD false K sp_law) := by
  have e := hfa.symm.trans (PySem.W.mg_of X G a8)
  cases e
  have F0 := fun_mk (st := s_parts_of) l0 c0 k0
  have B0 := F0.binds (ps := ["costs", "shares"]) fun _ _ _ _ _ _ us hl => match us, hl with | [_, _], _ => rfl
  have F1 := fun_mk (st := s_instalments) l1 c1 k1
  have B1 := F1.binds (ps := ["amount", "count"]) fun _ _ _ _ _ _ us hl => match us, hl with | [_, _], _ => rfl
  have F2 := fun_mk (st := s_law_cell) l2 c2 k2
  have B2 := F2.binds (ps := ["script", "k"]) fun _ _ _ _ _ _ us hl => match us, hl with | [_, _], _ => rfl
  have F3 := fun_mk (st := s_law_numbers) l3 c3 k3
  have B3 := F3.binds (ps := ["cell", "count", "limit"]) fun _ _ _ _ _ _ us hl => match us, hl with | [_, _, _], _ => rfl
  have F4 := fun_mk (st := s_law_same) l4 c4 k4
  have B4 := F4.binds (ps := ["told", "due"]) fun _ _ _ _ _ _ us hl => match us, hl with | [_, _], _ => rfl
  have F5 := fun_mk (st := s_law_draws) l5 c5 k5
  have B5 := F5.binds (ps := ["script", "k", "count"]) fun _ _ _ _ _ _ us hl => match us, hl with | [_, _, _], _ => rfl
  have F6 := fun_mk (st := s_law_due) l6 c6 k6
  have B6 := F6.binds (ps := ["costs", "shares"]) fun _ _ _ _ _ _ us hl => match us, hl with | [_, _], _ => rfl
  have F7 := fun_mk (st := s_law_groups) l7 c7 k7
  have B7 := F7.binds (ps := ["count", "draws"]) fun _ _ _ _ _ _ us hl => match us, hl with | [_, _], _ => rfl
  have F8 := fun_mk (st := s_law) l8 c8 k8
  have B8 := F8.binds (ps := ["script"]) fun _ _ _ _ _ _ us hl => match us, hl with | [_], _ => rfl
  refine ⟨_, fun s v => ?_, fun base _ _ => ok_law (T := ⟨F0, PySem.W.mg_of X G a0, B0, F1, PySem.W.mg_of X G a1, B1, F2, PySem.W.mg_of X G a2, B2, F3, PySem.W.mg_of X G a3, B3, F4, PySem.W.mg_of X G a4, B4, F5, PySem.W.mg_of X G a5, B5, F6, PySem.W.mg_of X G a6, B6, F7, PySem.W.mg_of X G a7, B7, F8, PySem.W.mg_of X G a8, B8, PySem.W.mg_none_of X G z0, PySem.W.mg_none_of X G z1, PySem.W.mg_none_of X G z2, PySem.W.mg_none_of X G z3, PySem.W.mg_none_of X G z4, PySem.W.mg_none_of X G z5, PySem.W.mg_none_of X G z6, PySem.W.mg_none_of X G z7, PySem.W.mg_none_of X G z8, PySem.W.mg_none_of X G z9, PySem.W.mg_none_of X G z10, PySem.W.mg_none_of X G z11⟩)⟩
  exact .of_eq rfl

end DL
open PySem PySem.W PyProof.Rows
set_option maxHeartbeats 0 in
theorem PySem.Challenge.cw_juriesagree_k76_whole_costs_of_many_side_holds : PySem.Challenge.rw_juriesagree_k76_whole_costs_of_many_side.Holds := by
  w_on; o_law; k_head; (case hw => w_witness2)
  k_fill
  refine L2.walk_of (l := PySem.Challenge.rw_juriesagree_k76_whole_costs_of_many_side) (n := 63) (k := 10) (x := "script") (CX := fun _ => L2.CX0) (sp := fun w => DL.spD false _ DL.sp_law) rfl (by decide) rfl ⟨rfl, by decide, by decide⟩ (fun w h Y => PySem.W.kIn_of Y) ?F (fun w H a ns hl _ hS => DL.law_start ns hl hS) (fun _ _ _ _ _ h => h)
  case F =>
    intro w mg fa h KX G hmg
    refine' DL.all_mk KX G hmg ?a0 ?l0 ?c0 ?k0 ?a1 ?l1 ?c1 ?k1 ?a2 ?l2 ?c2 ?k2 ?a3 ?l3 ?c3 ?k3 ?a4 ?l4 ?c4 ?k4 ?a5 ?l5 ?c5 ?k5 ?a6 ?l6 ?c6 ?k6 ?a7 ?l7 ?c7 ?k7 ?a8 ?l8 ?c8 ?k8 ?z0 ?z1 ?z2 ?z3 ?z4 ?z5 ?z6 ?z7 ?z8 ?z9 ?z10 ?z11
    (case a0 => k_is); (case l0 => k_is); (case c0 => k_is); (case k0 => k_is); (case a1 => k_is); (case l1 => k_is); (case c1 => k_is); (case k1 => k_is)
    (case a2 => k_is); (case l2 => k_is); (case c2 => k_is); (case k2 => k_is); (case a3 => k_is); (case l3 => k_is); (case c3 => k_is); (case k3 => k_is)
    (case a4 => k_is); (case l4 => k_is); (case c4 => k_is); (case k4 => k_is); (case a5 => k_is); (case l5 => k_is); (case c5 => k_is); (case k5 => k_is)
    (case a6 => k_is); (case l6 => k_is); (case c6 => k_is); (case k6 => k_is); (case a7 => k_is); (case l7 => k_is); (case c7 => k_is); (case k7 => k_is)
    (case a8 => k_is); (case l8 => k_is); (case c8 => k_is); (case k8 => k_is); (case z0 => k_is); (case z1 => k_is); (case z2 => k_is); (case z3 => k_is)
    (case z4 => k_is); (case z5 => k_is); (case z6 => k_is); (case z7 => k_is); (case z8 => k_is); (case z9 => k_is); (case z10 => k_is); (case z11 => k_is)

