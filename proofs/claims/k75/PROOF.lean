import PyProof.Rows.All
import Wide.All
import OpenK.AllK
import Wide.FinOn
import HandS.ForMost
import HandS.IsInst
import HandS.SortInts
import HandS.SortRule
import HandS.Style
import HandS.SortKw
import HandS.Wide
import HandS.TupAny
import HandS.Deep
import HandS.Flow
import HandS.Conv
import PySem.Challenge.RW_juriesagree_k75_whole_long_rows_of_hands
set_option Elab.async false
set_option linter.all false
set_option maxRecDepth 100000
set_option maxHeartbeats 4000000
/-! The data layer: values as trees. -/
namespace DL
open PySem PySem.Spec PyProof.Rows L2

/-- plain data -/
inductive D where
  | non | bl (b : Bool) | int (i : Int) | str (x : Str) | lst (xs : List D) | tup (xs : List D) | scr (ns : List Int)
  | dK (kvs : List (Key × D)) | dT (kvs : List (List Key × D))

abbrev Fr := PySem.W.Frag

mutual
inductive Rep (K : Fr) (F : Hp) : V → D → Prop
  | non : Rep K F .non .non
  | bl (b : Bool) : Rep K F (.bl b) (.bl b)
  | int (i : Int) : Rep K F (.int i) (.int i)
  | str (x : Str) : Rep K F (.str x) (.str x)
  | ob {a : Addr} {o : HO} {d : D} : F a = some o → RepO K F o d → Rep K F (.ref a) d
  | scr {a : Addr} {ns : List Int} : SqL K F a (ns.map V.int) → Rep K F (.ref a) (.scr ns)
inductive RepO (K : Fr) (F : Hp) : HO → D → Prop
  | lst {vs : List V} {ds : List D} : RepL K F vs ds → RepO K F (.lst vs) (.lst ds)
  | tup {vs : List V} {ds : List D} : RepL K F vs ds → RepO K F (.tup vs) (.tup ds)
  | dK {kvs : List (Key × V)} {kds : List (Key × D)} : RepK K F kvs kds → RepO K F (.dK kvs) (.dK kds)
  | dT {kvs : List (List Key × V)} {kds : List (List Key × D)} : RepT K F kvs kds → RepO K F (.dT kvs) (.dT kds)
inductive RepL (K : Fr) (F : Hp) : List V → List D → Prop
  | nil : RepL K F [] []
  | cons {v : V} {vs : List V} {d : D} {ds : List D} : Rep K F v d → RepL K F vs ds → RepL K F (v :: vs) (d :: ds)
inductive RepK (K : Fr) (F : Hp) : List (Key × V) → List (Key × D) → Prop
  | nil : RepK K F [] []
  | cons {k : Key} {v : V} {vs : List (Key × V)} {d : D} {ds : List (Key × D)} : Rep K F v d → RepK K F vs ds → RepK K F ((k, v) :: vs) ((k, d) :: ds)
inductive RepT (K : Fr) (F : Hp) : List (List Key × V) → List (List Key × D) → Prop
  | nil : RepT K F [] []
  | cons {k : List Key} {v : V} {vs : List (List Key × V)} {d : D} {ds : List (List Key × D)} : Rep K F v d → RepT K F vs ds → RepT K F ((k, v) :: vs) ((k, d) :: ds)
end

section
variable {K : Fr} {F F' : Hp}
mutual
theorem Rep.mono (s : Same F F') : ∀ {v : V} {d : D}, Rep K F v d → Rep K F' v d
  | _, _, .non => .non
  | _, _, .bl b => .bl b
  | _, _, .int i => .int i
  | _, _, .str x => .str x
  | _, _, .ob h r => .ob (s _ _ h) (RepO.mono s r)
  | _, _, .scr h => .scr (s.seq h)
theorem RepO.mono (s : Same F F') : ∀ {o : HO} {d : D}, RepO K F o d → RepO K F' o d
  | _, _, .lst r => .lst (RepL.mono s r)
  | _, _, .tup r => .tup (RepL.mono s r)
  | _, _, .dK r => .dK (RepK.mono s r)
  | _, _, .dT r => .dT (RepT.mono s r)
theorem RepL.mono (s : Same F F') : ∀ {vs : List V} {ds : List D}, RepL K F vs ds → RepL K F' vs ds
  | _, _, .nil => .nil
  | _, _, .cons a b => .cons (Rep.mono s a) (RepL.mono s b)
theorem RepK.mono (s : Same F F') : ∀ {vs : List (Key × V)} {ds : List (Key × D)}, RepK K F vs ds → RepK K F' vs ds
  | _, _, .nil => .nil
  | _, _, .cons a b => .cons (Rep.mono s a) (RepK.mono s b)
theorem RepT.mono (s : Same F F') : ∀ {vs : List (List Key × V)} {ds : List (List Key × D)}, RepT K F vs ds → RepT K F' vs ds
  | _, _, .nil => .nil
  | _, _, .cons a b => .cons (Rep.mono s a) (RepT.mono s b)
end

/-- what may be changed: lists and dicts -/
inductive RepW (K : Fr) (F : Hp) : HO → D → Prop
  | lst {vs : List V} {ds : List D} : RepL K F vs ds → RepW K F (.lst vs) (.lst ds)
  | dK {kvs : List (Key × V)} {kds : List (Key × D)} : RepK K F kvs kds → RepW K F (.dK kvs) (.dK kds)
  | dT {kvs : List (List Key × V)} {kds : List (List Key × D)} : RepT K F kvs kds → RepW K F (.dT kvs) (.dT kds)
theorem RepW.toO {o : HO} {d : D} (h : RepW K F o d) : RepO K F o d := by
  cases h with
  | lst r => exact .lst r
  | dK r => exact .dK r
  | dT r => exact .dT r
theorem RepW.mono {o : HO} {d : D} (s : Same F F') (h : RepW K F o d) : RepW K F' o d := by
  cases h with
  | lst r => exact .lst (r.mono s)
  | dK r => exact .dK (r.mono s)
  | dT r => exact .dT (r.mono s)
theorem RepL.length : ∀ {vs : List V} {ds : List D}, RepL K F vs ds → vs.length = ds.length
  | _, _, .nil => rfl
  | _, _, .cons _ b => by simp [RepL.length b]
theorem RepL.get : ∀ {vs : List V} {ds : List D} {i : Nat} {d : D}, RepL K F vs ds → ds[i]? = some d → ∃ v, vs[i]? = some v ∧ Rep K F v d
  | _, _, _, _, .nil, e => by simp at e
  | _, _, 0, _, .cons r _, e => by simp at e; subst e; exact ⟨_, rfl, r⟩
  | _, _, i + 1, _, .cons _ t, e => by
    obtain ⟨v, h1, h2⟩ := RepL.get (i := i) t (by simpa using e)
    exact ⟨v, by simpa using h1, h2⟩
theorem RepL.getV : ∀ {vs : List V} {ds : List D} {i : Nat} {v : V}, RepL K F vs ds → vs[i]? = some v → ∃ d, ds[i]? = some d ∧ Rep K F v d
  | _, _, _, _, .nil, e => by simp at e
  | _, _, 0, _, .cons r _, e => by simp at e; subst e; exact ⟨_, rfl, r⟩
  | _, _, i + 1, _, .cons _ t, e => by
    obtain ⟨v, h1, h2⟩ := RepL.getV (i := i) t (by simpa using e)
    exact ⟨v, by simpa using h1, h2⟩
theorem RepL.append : ∀ {vs ws : List V} {ds es : List D}, RepL K F vs ds → RepL K F ws es → RepL K F (vs ++ ws) (ds ++ es)
  | _, _, _, _, .nil, s => s
  | _, _, _, _, .cons r t, s => .cons r (RepL.append t s)
theorem RepL.take : ∀ {vs : List V} {ds : List D} (n : Nat), RepL K F vs ds → RepL K F (vs.take n) (ds.take n)
  | _, _, 0, _ => .nil
  | _, _, _ + 1, .nil => .nil
  | _, _, n + 1, .cons r t => .cons r (RepL.take n t)
theorem RepL.drop : ∀ {vs : List V} {ds : List D} (n : Nat), RepL K F vs ds → RepL K F (vs.drop n) (ds.drop n)
  | _, _, 0, r => r
  | _, _, _ + 1, .nil => .nil
  | _, _, n + 1, .cons _ t => RepL.drop n t
theorem RepL.set {x : V} {d : D} (r : Rep K F x d) : ∀ {vs : List V} {ds : List D} (i : Nat), RepL K F vs ds → RepL K F (vs.set i x) (ds.set i d)
  | _, _, _, .nil => .nil
  | _, _, 0, .cons _ t => .cons r t
  | _, _, i + 1, .cons q t => .cons q (RepL.set r i t)
theorem RepL.eraseIdx : ∀ {vs : List V} {ds : List D} (i : Nat), RepL K F vs ds → RepL K F (vs.eraseIdx i) (ds.eraseIdx i)
  | _, _, _, .nil => .nil
  | _, _, 0, .cons _ t => t
  | _, _, i + 1, .cons q t => .cons q (RepL.eraseIdx i t)
theorem RepL.reverse {vs : List V} {ds : List D} (h : RepL K F vs ds) : RepL K F vs.reverse ds.reverse := by
  induction vs generalizing ds with
  | nil => cases h; exact .nil
  | cons v vs ih =>
    cases h with
    | cons a b => rw [List.reverse_cons, List.reverse_cons]; exact (ih b).append (.cons a .nil)
theorem RepL.ints : ∀ {vs : List V} {ns : List Int}, RepL K F vs (ns.map D.int) → vs = ns.map V.int
  | [], [], _ => rfl
  | v :: vs, n :: ns, h => by
    cases h with
    | cons a b =>
      have e := RepL.ints b
      have e1 : v = .int n := by
        generalize hd : D.int n = d at a
        cases a with
        | int i => cases hd; rfl
        | ob h r => subst hd; cases r
        | _ => cases hd
      rw [e, e1]; rfl
  | [], _ :: _, h => by cases h
  | _ :: _, [], h => by cases h
theorem RepL.ofInts : ∀ (ns : List Int), RepL K F (ns.map V.int) (ns.map D.int)
  | [] => .nil
  | n :: ns => .cons (.int n) (RepL.ofInts ns)
theorem Rep.int_inv {v : V} {i : Int} (h : Rep K F v (.int i)) : v = .int i := by
  generalize hd : D.int i = d at h
  cases h with
  | int i => cases hd; rfl
  | ob h r => subst hd; cases r
  | _ => cases hd
theorem Rep.bl_inv {v : V} {i : Bool} (h : Rep K F v (.bl i)) : v = .bl i := by
  generalize hd : D.bl i = d at h
  cases h with
  | bl i => cases hd; rfl
  | ob h r => subst hd; cases r
  | _ => cases hd
theorem Rep.str_inv {v : V} {i : Str} (h : Rep K F v (.str i)) : v = .str i := by
  generalize hd : D.str i = d at h
  cases h with
  | str i => cases hd; rfl
  | ob h r => subst hd; cases r
  | _ => cases hd
theorem Rep.non_inv {v : V} (h : Rep K F v .non) : v = .non := by
  generalize hd : D.non = d at h
  cases h with
  | non => rfl
  | ob h r => subst hd; cases r
  | _ => cases hd
theorem Rep.lst_inv {v : V} {ds : List D} (h : Rep K F v (.lst ds)) : ∃ a vs, v = .ref a ∧ F a = some (.lst vs) ∧ RepL K F vs ds := by
  generalize hd : D.lst ds = d at h
  cases h with
  | ob h r => subst hd; cases r with | lst r => exact ⟨_, _, rfl, h, r⟩
  | _ => cases hd
theorem Rep.tup_inv {v : V} {ds : List D} (h : Rep K F v (.tup ds)) : ∃ a vs, v = .ref a ∧ F a = some (.tup vs) ∧ RepL K F vs ds := by
  generalize hd : D.tup ds = d at h
  cases h with
  | ob h r => subst hd; cases r with | tup r => exact ⟨_, _, rfl, h, r⟩
  | _ => cases hd
theorem Rep.scr_inv {v : V} {ns : List Int} (h : Rep K F v (.scr ns)) : ∃ a, v = .ref a ∧ SqL K F a (ns.map V.int) := by
  generalize hd : D.scr ns = d at h
  cases h with
  | ob h r => subst hd; cases r
  | scr h => cases hd; exact ⟨_, rfl, h⟩
  | _ => cases hd
end

/-! ### growing -/
structure Grow (F H F' H' : Hp) : Prop where
  ff : Same F F'
  hh : Same H H'
  fh : Same F' H'
  ow : ∀ a, H a ≠ none → F a = none → F' a = none
theorem Grow.refl {F H : Hp} (s : Same F H) : Grow F H F H := ⟨Same.refl F, Same.refl H, s, fun _ _ h => h⟩
theorem Grow.trans {F H F1 H1 F2 H2 : Hp} (a : Grow F H F1 H1) (b : Grow F1 H1 F2 H2) : Grow F H F2 H2 :=
  ⟨a.ff.trans b.ff, a.hh.trans b.hh, b.fh, fun x h1 h2 => b.ow x (by
    cases e : H x with
    | none => exact absurd e h1
    | some o => rw [a.hh _ _ e]; simp) (a.ow x h1 h2)⟩
theorem same_new {H : Hp} {p : Addr} {o : HO} (n : H p = none) : Same H (upd H p o) := fun b u e => by
  rw [upd_ne (ne_of_none e n)]; exact e
theorem Grow.new {F H : Hp} {p : Addr} {o : HO} (s : Same F H) (n : H p = none) : Grow F H (upd F p o) (upd H p o) := by
  have nf : F p = none := s.free n
  refine ⟨same_new nf, same_new n, fun b u e => ?_, fun a h1 h2 => ?_⟩
  · by_cases hb : b = p
    · subst hb; rw [upd_same] at e ⊢; exact e
    · rw [upd_ne hb] at e ⊢; exact s _ _ e
  · have : a ≠ p := by rintro rfl; exact h1 n
    rw [upd_ne this]; exact h2
/-- a new object that is not frozen -/
theorem Grow.newH {F H : Hp} {p : Addr} {o : HO} (s : Same F H) (n : H p = none) : Grow F H F (upd H p o) :=
  ⟨Same.refl F, same_new n, s.trans (same_new n), fun _ _ h => h⟩
/-- an unfrozen object is frozen -/
theorem Grow.frz {F H F' H' : Hp} {p : Addr} {o : HO} (g : Grow F H F' H') (n : H p = none) (e : H' p = some o) (nf : F' p = none) : Grow F H (upd F' p o) H' := by
  refine ⟨g.ff.trans (same_new nf), g.hh, fun b u q => ?_, fun a h1 h2 => ?_⟩
  · by_cases hb : b = p
    · subst hb; rw [upd_same] at q; rw [e]; exact q
    · rw [upd_ne hb] at q; exact g.fh _ _ q
  · have : a ≠ p := by rintro rfl; exact h1 n
    rw [upd_ne this]; exact g.ow a h1 h2

/-! ### borrowed values -/
def BRep (K : Fr) (F H : Hp) (v : V) (d : D) : Prop := Rep K F v d ∨ ∃ a o, v = .ref a ∧ F a = none ∧ H a = some o ∧ RepW K F o d
inductive BRepL (K : Fr) (F H : Hp) : List V → List D → Prop
  | nil : BRepL K F H [] []
  | cons {v : V} {vs : List V} {d : D} {ds : List D} : BRep K F H v d → BRepL K F H vs ds → BRepL K F H (v :: vs) (d :: ds)
section
variable {K : Fr} {F H F' H' : Hp} {v : V}
theorem BRep.grow {d : D} (h : BRep K F H v d) (g : Grow F H F' H') : BRep K F' H' v d := by
  rcases h with h | ⟨a, o, e, n, q, r⟩
  · exact .inl (h.mono g.ff)
  · exact .inr ⟨a, o, e, g.ow a (by rw [q]; simp) n, g.hh _ _ q, r.mono g.ff⟩
theorem BRep.rep {d : D} (h : BRep K F H v d) (s : Same F H) : Rep K H v d := by
  rcases h with h | ⟨a, o, rfl, n, q, r⟩
  · exact h.mono s
  · exact .ob q (r.mono s).toO
theorem BRep.int {i : Int} (h : BRep K F H v (.int i)) : v = .int i := by
  rcases h with h | ⟨a, o, rfl, n, q, r⟩
  · exact h.int_inv
  · cases r
theorem BRep.bl {i : Bool} (h : BRep K F H v (.bl i)) : v = .bl i := by
  rcases h with h | ⟨a, o, rfl, n, q, r⟩
  · exact h.bl_inv
  · cases r
theorem BRep.str {i : Str} (h : BRep K F H v (.str i)) : v = .str i := by
  rcases h with h | ⟨a, o, rfl, n, q, r⟩
  · exact h.str_inv
  · cases r
theorem BRep.non (h : BRep K F H v .non) : v = .non := by
  rcases h with h | ⟨a, o, rfl, n, q, r⟩
  · exact h.non_inv
  · cases r
theorem BRep.lst {ds : List D} (h : BRep K F H v (.lst ds)) (s : Same F H) : ∃ a vs, v = .ref a ∧ H a = some (.lst vs) ∧ RepL K F vs ds := by
  rcases h with h | ⟨a, o, rfl, n, q, r⟩
  · obtain ⟨a, vs, rfl, h, r⟩ := h.lst_inv; exact ⟨a, vs, rfl, s _ _ h, r⟩
  · cases r with | lst r => exact ⟨a, _, rfl, q, r⟩
theorem BRep.tup {ds : List D} (h : BRep K F H v (.tup ds)) (s : Same F H) : ∃ a vs, v = .ref a ∧ H a = some (.tup vs) ∧ RepL K F vs ds := by
  rcases h with h | ⟨a, o, rfl, n, q, r⟩
  · obtain ⟨a, vs, rfl, h, r⟩ := h.tup_inv; exact ⟨a, vs, rfl, s _ _ h, r⟩
  · cases r
theorem BRep.scr {ns : List Int} (h : BRep K F H v (.scr ns)) (s : Same F H) : ∃ a, v = .ref a ∧ SqL K H a (ns.map V.int) := by
  rcases h with h | ⟨a, o, rfl, n, q, r⟩
  · obtain ⟨a, rfl, h'⟩ := h.scr_inv; exact ⟨a, rfl, s.seq h'⟩
  · cases r
theorem BRepL.grow : ∀ {vs : List V} {ds : List D}, BRepL K F H vs ds → Grow F H F' H' → BRepL K F' H' vs ds
  | _, _, .nil, _ => .nil
  | _, _, .cons a b, g => .cons (a.grow g) (b.grow g)
theorem BRepL.repH : ∀ {vs : List V} {ds : List D}, BRepL K F H vs ds → Same F H → RepL K H vs ds
  | _, _, .nil, _ => .nil
  | _, _, .cons a b, g => .cons (a.rep g) (b.repH g)
theorem BRepL.length : ∀ {vs : List V} {ds : List D}, BRepL K F H vs ds → vs.length = ds.length
  | _, _, .nil => rfl
  | _, _, .cons _ b => by simp [BRepL.length b]
end

/-! ### environments -/
inductive Sl where
  | val (d : D) | own (d : D)
abbrev GE := List (Option Sl)
def SlOk (K : Fr) (HB F H : Hp) (x : Option (Option V)) : Sl → Prop
  | .val d => ∃ v, x = some (some v) ∧ Rep K F v d
  | .own d => ∃ a o, x = some (some (.ref a)) ∧ HB a = none ∧ F a = none ∧ H a = some o ∧ RepW K F o d
structure J (K : Fr) (B HB F : Hp) (Γ : GE) (σ : L2.St) (H : Hp) : Prop where
  gr : Grow B HB F H
  len : Γ.length = σ.length
  sl : ∀ (i : Nat) s, Γ[i]? = some (some s) → SlOk K HB F H σ[i]? s
  ow : ∀ (i j : Nat) d d' a, i ≠ j → Γ[i]? = some (some (.own d)) → Γ[j]? = some (some (.own d')) → σ[i]? = some (some (.ref a)) → σ[j]? ≠ some (some (.ref a))
section
variable {K : Fr} {B HB F H F' H' : Hp} {Γ : GE} {σ : L2.St}
theorem J.fh (j : J K B HB F Γ σ H) : Same F H := j.gr.fh
theorem SlOk.grow {x : Option (Option V)} {s : Sl} (h : SlOk K HB F H x s) (g : Grow F H F' H') : SlOk K HB F' H' x s := by
  cases s with
  | val d => obtain ⟨v, e, r⟩ := h; exact ⟨v, e, r.mono g.ff⟩
  | own d => obtain ⟨a, o, e, n1, n2, q, r⟩ := h; exact ⟨a, o, e, n1, g.ow a (by rw [q]; simp) n2, g.hh _ _ q, r.mono g.ff⟩
theorem J.grow (j : J K B HB F Γ σ H) (g : Grow F H F' H') : J K B HB F' Γ σ H' := ⟨j.gr.trans g, j.len, fun i s e => (j.sl i s e).grow g, j.ow⟩
theorem J.rebase (j : J K B HB F Γ σ H) : J K F HB F Γ σ H := ⟨⟨Same.refl F, j.gr.hh, j.gr.fh, fun _ _ h => h⟩, j.len, j.sl, j.ow⟩
theorem J.unbase {B' : Hp} (j : J K B' HB F Γ σ H) (g : Grow B HB B' H') : J K B HB F Γ σ H :=
  ⟨⟨g.ff.trans j.gr.ff, j.gr.hh, j.gr.fh, fun a h1 h2 => j.gr.ow a h1 (g.ow a h1 h2)⟩, j.len, j.sl, j.ow⟩
/-- a name is set to a frozen value -/
theorem J.set {v : V} {d : D} (j : J K B HB F Γ σ H) (i : Nat) (r : Rep K F v d) : J K B HB F (Γ.set i (some (.val d))) (σ.set i (some v)) H := by
  refine ⟨j.gr, by simp [j.len], fun k s e => ?_, fun k l d1 d2 a ne e1 e2 e3 => ?_⟩
  · by_cases h : i = k
    · subst h
      have hi : i < Γ.length := by
        rw [List.getElem?_set] at e
        split at e
        · split at e
          · assumption
          · cases e
        · exact absurd rfl (by assumption)
      rw [List.getElem?_set_self hi] at e
      cases e
      exact ⟨v, by rw [List.getElem?_set_self (by rw [← j.len]; exact hi)], r⟩
    · rw [List.getElem?_set_ne h] at e ⊢
      exact j.sl k s e
  · have nk : i ≠ k := by
      rintro rfl
      rw [List.getElem?_set] at e1
      split at e1
      · split at e1
        · cases e1
        · cases e1
      · exact absurd rfl (by assumption)
    have nl : i ≠ l := by
      rintro rfl
      rw [List.getElem?_set] at e2
      split at e2
      · split at e2
        · cases e2
        · cases e2
      · exact absurd rfl (by assumption)
    rw [List.getElem?_set_ne nk] at e1 e3
    rw [List.getElem?_set_ne nl] at e2 ⊢
    exact j.ow k l d1 d2 a ne e1 e2 e3
/-- a name is set to a new object of its own -/
theorem J.setOwn {p : Addr} {o : HO} {d : D} (j : J K B HB F Γ σ H) (i : Nat) (n1 : HB p = none) (n2 : F p = none) (e : H p = some o) (r : RepW K F o d)
    (ne : ∀ (k : Nat) d', Γ[k]? = some (some (.own d')) → σ[k]? ≠ some (some (.ref p))) : J K B HB F (Γ.set i (some (.own d))) (σ.set i (some (.ref p))) H := by
  refine ⟨j.gr, by simp [j.len], fun k s q => ?_, fun k l d1 d2 a nkl e1 e2 e3 => ?_⟩
  · by_cases h : i = k
    · subst h
      have hi : i < Γ.length := by
        rw [List.getElem?_set] at q
        split at q
        · split at q
          · assumption
          · cases q
        · exact absurd rfl (by assumption)
      rw [List.getElem?_set_self hi] at q
      cases q
      exact ⟨p, o, by rw [List.getElem?_set_self (by rw [← j.len]; exact hi)], n1, n2, e, r⟩
    · rw [List.getElem?_set_ne h] at q ⊢
      exact j.sl k s q
  · by_cases hk : i = k
    · subst hk
      have nl : i ≠ l := nkl
      rw [List.getElem?_set_ne nl] at e2 ⊢
      have hi : i < σ.length := by
        rw [List.getElem?_set] at e3
        split at e3
        · split at e3
          · assumption
          · cases e3
        · exact absurd rfl (by assumption)
      rw [List.getElem?_set_self hi] at e3
      cases e3
      exact ne l d2 e2
    · rw [List.getElem?_set_ne hk] at e1 e3
      by_cases hl : i = l
      · subst hl
        have hi : i < σ.length := by
          rw [← j.len]
          rw [List.getElem?_set] at e2
          split at e2
          · split at e2
            · assumption
            · cases e2
          · exact absurd rfl (by assumption)
        rw [List.getElem?_set_self hi]
        intro z
        cases z
        exact ne k d1 e1 e3
      · rw [List.getElem?_set_ne hl] at e2 ⊢
        exact j.ow k l d1 d2 a nkl e1 e2 e3
/-- an object of a name's own is changed -/
theorem J.write {i : Nat} {a : Addr} {o : HO} {d d' : D} (j : J K B HB F Γ σ H) (e : Γ[i]? = some (some (.own d))) (e2 : σ[i]? = some (some (.ref a))) (r : RepW K F o d') :
    J K B HB F (Γ.set i (some (.own d'))) σ (upd H a o) := by
  obtain ⟨a', o', ea, n1, n2, q, r'⟩ := j.sl i _ e
  rw [e2] at ea
  cases ea
  have hi : i < Γ.length := (List.getElem?_eq_some_iff.mp e).1
  have keep : ∀ b u, b ≠ a → H b = some u → upd H a o b = some u := fun b u nb h => by rw [upd_ne nb]; exact h
  refine ⟨⟨j.gr.ff, fun b u h => keep b u (by rintro rfl; rw [n1] at h; cases h) (j.gr.hh _ _ h), fun b u h => keep b u (by rintro rfl; rw [n2] at h; cases h) (j.gr.fh _ _ h), j.gr.ow⟩, by simp [j.len], fun k s h => ?_, fun k l d1 d2 b nkl e1 e2' e3 => ?_⟩
  · by_cases hk : i = k
    · subst hk
      rw [List.getElem?_set_self hi] at h
      cases h
      exact ⟨a, o, e2, n1, n2, upd_same, r⟩
    · rw [List.getElem?_set_ne hk] at h
      have z := j.sl k s h
      cases s with
      | val d => exact z
      | own d2 =>
        obtain ⟨b, u, eb, m1, m2, qb, rb⟩ := z
        refine ⟨b, u, eb, m1, m2, keep b u ?_ qb, rb⟩
        rintro rfl
        exact j.ow i k _ _ b hk e h e2 eb
  · have f1 : ∃ d0, Γ[k]? = some (some (.own d0)) := by
      by_cases hk : i = k
      · subst hk; exact ⟨_, e⟩
      · rw [List.getElem?_set_ne hk] at e1; exact ⟨_, e1⟩
    have f2 : ∃ d0, Γ[l]? = some (some (.own d0)) := by
      by_cases hk : i = l
      · subst hk; exact ⟨_, e⟩
      · rw [List.getElem?_set_ne hk] at e2'; exact ⟨_, e2'⟩
    obtain ⟨_, f1⟩ := f1
    obtain ⟨_, f2⟩ := f2
    exact j.ow k l _ _ b nkl f1 f2 e3
/-- an object of a name's own is frozen -/
theorem J.freeze {i : Nat} {d : D} (j : J K B HB F Γ σ H) (e : Γ[i]? = some (some (.own d))) : ∃ F', J K B HB F' (Γ.set i (some (.val d))) σ H := by
  obtain ⟨a, o, ea, n1, n2, q, r⟩ := j.sl i _ e
  have hi : i < Γ.length := (List.getElem?_eq_some_iff.mp e).1
  have sf : Same F (upd F a o) := same_new n2
  have sh : Same (upd F a o) H := fun b u h => by
    by_cases hb : b = a
    · subst hb; rw [upd_same] at h; rw [q]; exact h
    · rw [upd_ne hb] at h; exact j.fh _ _ h
  refine ⟨upd F a o, ⟨⟨j.gr.ff.trans sf, j.gr.hh, sh, fun b h1 h2 => ?_⟩, by simp [j.len], fun k s h => ?_, fun k l d1 d2 b nkl e1 e2 e3 => ?_⟩⟩
  · have : b ≠ a := by rintro rfl; exact h1 n1
    rw [upd_ne this]; exact j.gr.ow b h1 h2
  · by_cases hk : i = k
    · subst hk
      rw [List.getElem?_set_self hi] at h
      cases h
      exact ⟨.ref a, ea, .ob upd_same (r.mono sf).toO⟩
    · rw [List.getElem?_set_ne hk] at h
      have z := j.sl k s h
      cases s with
      | val d => obtain ⟨v, ev, rv⟩ := z; exact ⟨v, ev, rv.mono sf⟩
      | own d2 =>
        obtain ⟨b, u, eb, m1, m2, qb, rb⟩ := z
        refine ⟨b, u, eb, m1, ?_, qb, rb.mono sf⟩
        have : b ≠ a := by
          rintro rfl
          exact j.ow i k _ _ b hk e h ea eb
        rw [upd_ne this]; exact m2
  · have f1 : i ≠ k := by
      rintro rfl
      rw [List.getElem?_set_self hi] at e1; cases e1
    have f2 : i ≠ l := by
      rintro rfl
      rw [List.getElem?_set_self hi] at e2; cases e2
    rw [List.getElem?_set_ne f1] at e1
    rw [List.getElem?_set_ne f2] at e2
    exact j.ow k l _ _ b nkl e1 e2 e3
/-- a name is forgotten -/
theorem J.drop {i : Nat} (j : J K B HB F Γ σ H) : J K B HB F (Γ.set i none) σ H := by
  refine ⟨j.gr, by simp [j.len], fun k s h => ?_, fun k l d1 d2 b nkl e1 e2 e3 => ?_⟩
  · have f1 : i ≠ k := by
      rintro rfl
      rw [List.getElem?_set] at h
      split at h
      · split at h <;> cases h
      · exact absurd rfl (by assumption)
    rw [List.getElem?_set_ne f1] at h
    exact j.sl k s h
  · have f1 : i ≠ k := by
      rintro rfl
      rw [List.getElem?_set] at e1
      split at e1
      · split at e1 <;> cases e1
      · exact absurd rfl (by assumption)
    have f2 : i ≠ l := by
      rintro rfl
      rw [List.getElem?_set] at e2
      split at e2
      · split at e2 <;> cases e2
      · exact absurd rfl (by assumption)
    rw [List.getElem?_set_ne f1] at e1
    rw [List.getElem?_set_ne f2] at e2
    exact j.ow k l _ _ b nkl e1 e2 e3
end
end DL

set_option Elab.async false
set_option linter.all false
set_option maxRecDepth 100000
set_option maxHeartbeats 4000000
namespace DL
open PySem PySem.Spec PyProof.Rows L2

abbrev WE := GE → (D → Prop) → Prop
abbrev WT := GE → (Bool → Prop) → Prop
abbrev WA := GE → (List D → Prop) → Prop

/-! ### judgements -/
def SE (K : Fr) (t : TE) (f : WE) : Prop := ∀ (B HB F : Hp) (Γ : GE) (σ : L2.St) (H : Hp) (Q : VK) (Φ : D → Prop), J K B HB F Γ σ H → f Γ Φ → (∀ v d F' H', Grow F H F' H' → Rep K F' v d → Φ d → Q v H') → t σ H Q
def SB (K : Fr) (t : TE) (f : WE) : Prop := ∀ (B HB F : Hp) (Γ : GE) (σ : L2.St) (H : Hp) (Q : VK) (Φ : D → Prop), J K B HB F Γ σ H → f Γ Φ → (∀ v d F' H', Grow F H F' H' → BRep K F' H' v d → Φ d → Q v H') → t σ H Q
def SF (K : Fr) (t : TE) (f : WE) : Prop := ∀ (B HB F : Hp) (Γ : GE) (σ : L2.St) (H : Hp) (Q : VK) (Φ : D → Prop), J K B HB F Γ σ H → f Γ Φ →
    (∀ p o d F' H', Grow F H F' H' → F' p = none → H p = none → H' p = some o → RepW K F' o d → Φ d → Q (.ref p) H') → t σ H Q
def STt (K : Fr) (t : TT) (f : WT) : Prop := ∀ (B HB F : Hp) (Γ : GE) (σ : L2.St) (H : Hp) (Q : Bool → Hp → Prop) (Φ : Bool → Prop), J K B HB F Γ σ H → f Γ Φ → (∀ b F' H', Grow F H F' H' → Φ b → Q b H') → t σ H Q
def SA (K : Fr) (t : TA) (f : WA) : Prop := ∀ (B HB F : Hp) (Γ : GE) (σ : L2.St) (H : Hp) (Q : List V → Hp → Prop) (Φ : List D → Prop), J K B HB F Γ σ H → f Γ Φ → (∀ vs ds F' H', Grow F H F' H' → RepL K F' vs ds → Φ ds → Q vs H') → t σ H Q
def SAB (K : Fr) (t : TA) (f : WA) : Prop := ∀ (B HB F : Hp) (Γ : GE) (σ : L2.St) (H : Hp) (Q : List V → Hp → Prop) (Φ : List D → Prop), J K B HB F Γ σ H → f Γ Φ → (∀ vs ds F' H', Grow F H F' H' → BRepL K F' H' vs ds → Φ ds → Q vs H') → t σ H Q
/-- a frozen value -/
structure DE (K : Fr) (X : Cx) (e : Expr) (t : TE) (f : WE) : Prop where
  k : X.K = K
  p : PE X e t
  s : SE K t f
/-- a borrowed value -/
structure DB (K : Fr) (X : Cx) (e : Expr) (t : TE) (f : WE) : Prop where
  k : X.K = K
  p : PE X e t
  s : SB K t f
/-- a new object -/
structure DF (K : Fr) (X : Cx) (e : Expr) (t : TE) (f : WE) : Prop where
  k : X.K = K
  p : PE X e t
  s : SF K t f
structure DT (K : Fr) (X : Cx) (e : Expr) (t : TT) (f : WT) : Prop where
  k : X.K = K
  p : PT X e t
  s : STt K t f
structure DW (K : Fr) (X : Cx) (e : Expr) (t : TT) (f : WT) : Prop where
  k : X.K = K
  p : PW X e t
  s : STt K t f
structure DA (K : Fr) (X : Cx) (es : List Expr) (t : TA) (f : WA) : Prop where
  k : X.K = K
  p : PA X es t
  s : SA K t f
structure DAB (K : Fr) (X : Cx) (es : List Expr) (t : TA) (f : WA) : Prop where
  k : X.K = K
  p : PA X es t
  s : SAB K t f

section
variable {K : Fr} {X : Cx} {e a b c : Expr} {es rest : List Expr} {f fa fb fc : WE} {g ga gb : WT} {h : WA} {pos : Pos} {t ta tb tc : TE} {tg tga tgb : TT} {th : TA}

theorem DE.toB (he : DE K X e t f) : DB K X e t f := by
  obtain ⟨rfl, p, q⟩ := he
  exact ⟨rfl, p, fun B HB F Γ σ H Q Φ j w k => q B HB F Γ σ H Q Φ j w fun v d F' H' g r φ => k v d F' H' g (.inl r) φ⟩
theorem DF.toE (he : DF K X e t f) : DE K X e t f := by
  obtain ⟨rfl, p, q⟩ := he
  exact ⟨rfl, p, fun B HB F Γ σ H Q Φ j w k => q B HB F Γ σ H Q Φ j w fun p o d F' H' g n1 n2 eh r φ => k _ d _ H' (g.frz n2 eh n1) (.ob upd_same (r.mono (same_new n1)).toO) φ⟩
theorem DF.toB (he : DF K X e t f) : DB K X e t f := he.toE.toB

/-! ### names, constants -/
@[simp] def wVar (i : Nat) : WE := fun Γ Φ => ∃ d, Γ[i]? = some (some (.val d)) ∧ Φ d
@[simp] def wBor (i : Nat) : WE := fun Γ Φ => (∃ d, Γ[i]? = some (some (.val d)) ∧ Φ d) ∨ ∃ d, Γ[i]? = some (some (.own d)) ∧ Φ d
theorem de_var (i : Nat) {x : Str} (hk : X.K = K := by rfl) (hN : X.N[i]? = some x := by rfl) (hv : Vis X.env.scope x := by first | exact Or.inl rfl | exact Or.inr (Or.inl rfl) | exact Or.inr (Or.inr rfl)) (hd : (x == ("__debug__" : Str)) = false := by decide)
    (hcd : (x == ("__classdict__" : Str)) = false := by decide) : DE K X (.Name x pos) (tVar i) (wVar i) := by
  cases hk
  refine ⟨rfl, pe_var hN hv hd hcd, fun B HB F Γ σ H Q Φ j w k => ?_⟩
  obtain ⟨d, e, φ⟩ := w
  obtain ⟨v, ev, r⟩ := j.sl i _ e
  exact ⟨v, ev, k v d F H (.refl j.fh) r φ⟩
theorem db_var (i : Nat) {x : Str} (hk : X.K = K := by rfl) (hN : X.N[i]? = some x := by rfl) (hv : Vis X.env.scope x := by first | exact Or.inl rfl | exact Or.inr (Or.inl rfl) | exact Or.inr (Or.inr rfl)) (hd : (x == ("__debug__" : Str)) = false := by decide)
    (hcd : (x == ("__classdict__" : Str)) = false := by decide) : DB K X (.Name x pos) (tVar i) (wBor i) := by
  cases hk
  refine ⟨rfl, pe_var hN hv hd hcd, fun B HB F Γ σ H Q Φ j w k => ?_⟩
  rcases w with ⟨d, e, φ⟩ | ⟨d, e, φ⟩
  · obtain ⟨v, ev, r⟩ := j.sl i _ e
    exact ⟨v, ev, k v d F H (.refl j.fh) (.inl r) φ⟩
  · obtain ⟨a, o, ev, n1, n2, q, r⟩ := j.sl i _ e
    exact ⟨_, ev, k _ d F H (.refl j.fh) (.inr ⟨a, o, rfl, n2, q, r⟩) φ⟩
@[simp] def wC (d : D) : WE := fun _ Φ => Φ d
theorem de_c {v : V} {d : D} (hk : X.K = K) (he : PE X e (tC v)) (r : ∀ F, Rep K F v d) : DE K X e (tC v) (wC d) :=
  ⟨hk, he, fun B HB F Γ σ H Q Φ j w k => k v d F H (.refl j.fh) (r F) w⟩
theorem de_int {i j p} (hk : X.K = K := by rfl) : DE K X (.Constant (.int i) j p) (tC (.int i)) (wC (.int i)) := de_c hk pe_int fun _ => .int i
theorem de_bl {i j p} (hk : X.K = K := by rfl) : DE K X (.Constant (.bool i) j p) (tC (.bl i)) (wC (.bl i)) := de_c hk pe_bl fun _ => .bl i
theorem de_str {i j p} (hk : X.K = K := by rfl) : DE K X (.Constant (.str i) j p) (tC (.str i)) (wC (.str i)) := de_c hk pe_str fun _ => .str i
theorem de_non {j p} (hk : X.K = K := by rfl) : DE K X (.Constant .none j p) (tC .non) (wC .non) := de_c hk pe_non fun _ => .non
/-- a module's constant -/
theorem de_gint {x : Str} {i : Int} {t : Tok} {p : Pos} (hk : X.K = K := by rfl) (hg : Gl X x) (hm : X.mg x = some (.int i t)) (hd : (x == ("__debug__" : Str)) = false := by decide) : DE K X (.Name x p) (tC (.int i)) (wC (.int i)) :=
  de_c hk (pe_glob (v := .int i) hg hm ⟨t, rfl⟩ hd) fun _ => .int i

/-! ### two operands -/
abbrev W2 := D → D → (D → Prop) → Prop
def DOp2 (K : Fr) (r : R2) (w : W2) : Prop := ∀ (F H : Hp) (x y : V) (d e : D) (Q : VK) (Φ : D → Prop), Same F H → BRep K F H x d → BRep K F H y e → w d e Φ →
  (∀ v z F' H', Grow F H F' H' → Rep K F' v z → Φ z → Q v H') → r x y H Q
def DFp2 (K : Fr) (r : R2) (w : W2) : Prop := ∀ (F H : Hp) (x y : V) (d e : D) (Q : VK) (Φ : D → Prop), Same F H → BRep K F H x d → BRep K F H y e → w d e Φ →
  (∀ p o z F' H', Grow F H F' H' → F' p = none → H p = none → H' p = some o → RepW K F' o z → Φ z → Q (.ref p) H') → r x y H Q
@[simp] def w2 (w : W2) (fa fb : WE) : WE := fun Γ Φ => fa Γ fun x => fb Γ fun y => w x y Φ
theorem two_run {ta tb : TE} {r : R2} {w : W2} {B HB F : Hp} {Γ : GE} {σ : L2.St} {H : Hp} {Q : VK} {Φ : D → Prop}
    (qa : ∀ (B HB F : Hp) (Γ : GE) (σ : L2.St) (H : Hp) (Q : VK) (Φ : D → Prop), J K B HB F Γ σ H → fa Γ Φ → (∀ v d F' H', Grow F H F' H' → BRep K F' H' v d → Φ d → Q v H') → ta σ H Q)
    (qb : ∀ (B HB F : Hp) (Γ : GE) (σ : L2.St) (H : Hp) (Q : VK) (Φ : D → Prop), J K B HB F Γ σ H → fb Γ Φ → (∀ v d F' H', Grow F H F' H' → BRep K F' H' v d → Φ d → Q v H') → tb σ H Q)
    (j : J K B HB F Γ σ H) (hw : w2 w fa fb Γ Φ) (k : ∀ F' H' x y d e, Grow F H F' H' → J K B HB F' Γ σ H' → BRep K F' H' x d → BRep K F' H' y e → w d e Φ → r x y H' Q) : tOp r ta tb σ H Q := by
  refine qa B HB F Γ σ H _ _ j hw fun x d F1 H1 g1 r1 w1 => ?_
  refine qb B HB F1 Γ σ H1 _ _ (j.grow g1) w1 fun y e F2 H2 g2 r2 w2 => ?_
  exact k F2 H2 x y d e (g1.trans g2) ((j.grow g1).grow g2) (r1.grow g2) r2 w2
theorem de_op {op : Operator} {r : R2} {w : W2} (ho : X.K = K → OpR X (binaryOp op) r) (hd : DOp2 K r w) (ha : DB K X a ta fa) (hb : DB K X b tb fb) : DE K X (.BinOp a op b pos) (tOp r ta tb) (w2 w fa fb) := by
  obtain ⟨rfl, pa, qa⟩ := ha
  obtain ⟨_, pb, qb⟩ := hb
  refine ⟨rfl, pe_op (ho rfl) pa pb, fun B HB F Γ σ H Q Φ j w k => two_run qa qb j w fun F' H' x y d e g j' rx ry w' => ?_⟩
  exact hd F' H' x y d e Q Φ j'.fh rx ry w' fun v z F2 H2 g2 r φ => k v z F2 H2 (g.trans g2) r φ
theorem df_op {op : Operator} {r : R2} {w : W2} (ho : X.K = K → OpR X (binaryOp op) r) (hd : DFp2 K r w) (ha : DB K X a ta fa) (hb : DB K X b tb fb) : DF K X (.BinOp a op b pos) (tOp r ta tb) (w2 w fa fb) := by
  obtain ⟨rfl, pa, qa⟩ := ha
  obtain ⟨_, pb, qb⟩ := hb
  refine ⟨rfl, pe_op (ho rfl) pa pb, fun B HB F Γ σ H Q Φ j w k => two_run qa qb j w fun F' H' x y d e g j' rx ry w' => ?_⟩
  exact hd F' H' x y d e Q Φ j'.fh rx ry w' fun p o z F2 H2 g2 n1 n2 eh r φ => k p o z F2 H2 (g.trans g2) n1 (g.hh.free n2) eh r φ
theorem de_cmp {op : CmpOp} {r : R2} {w : W2} (ho : X.K = K → OpR X (compareOp op) r) (hd : DOp2 K r w) (ha : DB K X a ta fa) (hb : DB K X b tb fb) (hm : behindInMarks op b = false) : DE K X (.Compare a [op] [b] pos) (tOp r ta tb) (w2 w fa fb) := by
  obtain ⟨rfl, pa, qa⟩ := ha
  obtain ⟨_, pb, qb⟩ := hb
  refine ⟨rfl, pe_cmpR (ho rfl) pa pb hm, fun B HB F Γ σ H Q Φ j w k => two_run qa qb j w fun F' H' x y d e g j' rx ry w' => ?_⟩
  exact hd F' H' x y d e Q Φ j'.fh rx ry w' fun v z F2 H2 g2 r φ => k v z F2 H2 (g.trans g2) r φ
/-- a value that is a bool, as a test -/
@[simp] def wTest (f : WE) : WT := fun Γ Φ => f Γ fun d => ∃ k, d = .bl k ∧ Φ k
theorem dt_cmp {op : CmpOp} {r : R2} {w : W2} (ho : X.K = K → OpR X (compareOp op) r) (hd : DOp2 K r w) (ha : DB K X a ta fa) (hb : DB K X b tb fb) (hm : behindInMarks op b = false) : DT K X (.Compare a [op] [b] pos) (tTest (tOp r ta tb)) (wTest (w2 w fa fb)) := by
  obtain ⟨rfl, pa, qa⟩ := ha
  obtain ⟨_, pb, qb⟩ := hb
  refine ⟨rfl, pt_cmpR (ho rfl) pa pb hm, fun B HB F Γ σ H Q Φ j w k => two_run (w := _) (Φ := fun d => ∃ k, d = .bl k ∧ Φ k) qa qb j w fun F' H' x y d e g j' rx ry w' => ?_⟩
  refine hd F' H' x y d e _ _ j'.fh rx ry w' fun v z F2 H2 g2 r φ => ?_
  obtain ⟨c, rfl, φ⟩ := φ
  exact ⟨c, r.bl_inv, k c F2 H2 (g.trans g2) φ⟩
/-- a op b op' c -/
@[simp] def wChain (w w' : W2) (fa fb fc : WE) : WE := fun Γ Φ => fa Γ fun x => fb Γ fun y => w x y fun z => ∃ k, z = .bl k ∧ if k = true then fc Γ fun u => w' y u Φ else Φ (.bl false)
theorem chain_run {ta tb tc : TE} {r r' : R2} {w w' : W2} {B HB F : Hp} {Γ : GE} {σ : L2.St} {H : Hp} {Q : VK} {Φ : D → Prop}
    (qa : ∀ (B HB F : Hp) (Γ : GE) (σ : L2.St) (H : Hp) (Q : VK) (Φ : D → Prop), J K B HB F Γ σ H → fa Γ Φ → (∀ v d F' H', Grow F H F' H' → BRep K F' H' v d → Φ d → Q v H') → ta σ H Q)
    (qb : ∀ (B HB F : Hp) (Γ : GE) (σ : L2.St) (H : Hp) (Q : VK) (Φ : D → Prop), J K B HB F Γ σ H → fb Γ Φ → (∀ v d F' H', Grow F H F' H' → BRep K F' H' v d → Φ d → Q v H') → tb σ H Q)
    (qc : ∀ (B HB F : Hp) (Γ : GE) (σ : L2.St) (H : Hp) (Q : VK) (Φ : D → Prop), J K B HB F Γ σ H → fc Γ Φ → (∀ v d F' H', Grow F H F' H' → BRep K F' H' v d → Φ d → Q v H') → tc σ H Q)
    (hd : DOp2 K r w) (hd' : DOp2 K r' w')
    (j : J K B HB F Γ σ H) (hw : wChain w w' fa fb fc Γ Φ) (k : ∀ v d F' H', Grow F H F' H' → Rep K F' v d → Φ d → Q v H') : tChain r r' ta tb tc σ H Q := by
  refine qa B HB F Γ σ H _ _ j hw fun x d F1 H1 g1 r1 w1 => ?_
  refine qb B HB F1 Γ σ H1 _ _ (j.grow g1) w1 fun y e F2 H2 g2 r2 w2 => ?_
  have j2 := (j.grow g1).grow g2
  refine hd F2 H2 x y d e _ _ j2.fh (r1.grow g2) r2 w2 fun v z F3 H3 g3 r3 φ => ?_
  obtain ⟨c, rfl, φ⟩ := φ
  refine ⟨c, r3.bl_inv, ?_⟩
  have j3 := j2.grow g3
  cases c with
  | false => exact k _ _ F3 H3 ((g1.trans g2).trans g3) (.bl false) φ
  | true =>
    refine qc B HB F3 Γ σ H3 _ _ j3 φ fun u dd F4 H4 g4 r4 w4 => ?_
    exact hd' F4 H4 y u e dd _ _ (j3.grow g4).fh ((r2.grow g3).grow g4) r4 w4 fun v z F5 H5 g5 r5 φ5 => k v z F5 H5 ((((g1.trans g2).trans g3).trans g4).trans g5) r5 φ5
theorem de_chain {op op' : CmpOp} {r r' : R2} {w w' : W2} (ho : X.K = K → OpR X (compareOp op) r) (hd : DOp2 K r w) (ho' : X.K = K → OpR X (compareOp op') r') (hd' : DOp2 K r' w') (ha : DB K X a ta fa) (hb : DB K X b tb fb) (hc : DB K X c tc fc)
    (hm : lastMarks [op, op'] [b, c] = false := by with_unfolding_all rfl) : DE K X (.Compare a [op, op'] [b, c] pos) (tChain r r' ta tb tc) (wChain w w' fa fb fc) := by
  obtain ⟨rfl, pa, qa⟩ := ha
  obtain ⟨_, pb, qb⟩ := hb
  obtain ⟨_, pc, qc⟩ := hc
  exact ⟨rfl, pe_chain (ho rfl) (ho' rfl) pa pb pc hm, fun B HB F Γ σ H Q Φ j w k => chain_run qa qb qc hd hd' j w k⟩
theorem dt_chain {op op' : CmpOp} {r r' : R2} {w w' : W2} (ho : X.K = K → OpR X (compareOp op) r) (hd : DOp2 K r w) (ho' : X.K = K → OpR X (compareOp op') r') (hd' : DOp2 K r' w') (ha : DB K X a ta fa) (hb : DB K X b tb fb) (hc : DB K X c tc fc)
    (hm : lastMarks [op, op'] [b, c] = false := by with_unfolding_all rfl) : DT K X (.Compare a [op, op'] [b, c] pos) (tTest (tChain r r' ta tb tc)) (wTest (wChain w w' fa fb fc)) := by
  obtain ⟨rfl, pa, qa⟩ := ha
  obtain ⟨_, pb, qb⟩ := hb
  obtain ⟨_, pc, qc⟩ := hc
  refine ⟨rfl, pt_chain (ho rfl) (ho' rfl) pa pb pc hm, fun B HB F Γ σ H Q Φ j w k => chain_run qa qb qc hd hd' j w fun v d F' H' g r φ => ?_⟩
  obtain ⟨c, rfl, φ⟩ := φ
  exact ⟨c, r.bl_inv, k c F' H' g φ⟩

/-! ### one operand -/
abbrev W1 := D → (D → Prop) → Prop
@[simp] def w1 (w : W1) (fa : WE) : WE := fun Γ Φ => fa Γ fun x => w x Φ
@[simp] def wNeg : W1 | .int i, Φ => Φ (.int (-i)) | _, _ => False
theorem de_neg (ha : DE K X a ta fa) : DE K X (.UnaryOp .USub a pos) (tUn (rU fun i => .int (-i)) ta) (w1 wNeg fa) := by
  obtain ⟨rfl, pa, qa⟩ := ha
  refine ⟨rfl, pe_un un_neg pa, fun B HB F Γ σ H Q Φ j w k => qa B HB F Γ σ H _ _ j w fun v d F' H' g r φ => ?_⟩
  cases d with
  | int i => exact ⟨i, r.int_inv, k _ _ F' H' g (.int _) φ⟩
  | _ => exact φ.elim
/-- is None -/
@[simp] def wIsN (n : Bool) : W1 := fun d Φ => Φ (.bl (match d with | .non => !n | _ => n))
theorem isN_of {K : Fr} {F H : Hp} {v : V} {d : D} (r : BRep K F H v d) : decide (v = .non) = (match d with | .non => true | _ => false) := by
  rcases r with r | ⟨a, o, rfl, _, _, r⟩
  · cases r with
    | ob _ r => cases r <;> simp
    | _ => simp
  · cases r <;> simp
theorem de_isN {j p} (ha : DB K X a ta fa) : DE K X (.Compare a [.Is] [.Constant .none j p] pos) (tIsN ta) (w1 (wIsN false) fa) := by
  obtain ⟨rfl, pa, qa⟩ := ha
  refine ⟨rfl, pe_cmp (pc_isN pa) rfl, fun B HB F Γ σ H Q Φ j w k => qa B HB F Γ σ H _ _ j w fun v d F' H' g r φ => ?_⟩
  rw [isN_of r]
  exact k _ _ F' H' g (.bl _) (by cases d <;> exact φ)
theorem de_notN {j p} (ha : DB K X a ta fa) : DE K X (.Compare a [.IsNot] [.Constant .none j p] pos) (tNotN ta) (w1 (wIsN true) fa) := by
  obtain ⟨rfl, pa, qa⟩ := ha
  refine ⟨rfl, pe_cmp (pc_notN pa) rfl, fun B HB F Γ σ H Q Φ j w k => qa B HB F Γ σ H _ _ j w fun v d F' H' g r φ => ?_⟩
  rw [isN_of r]
  exact k _ _ F' H' g (.bl _) (by cases d <;> exact φ)

/-! ### tests -/
theorem dt_val (he : DE K X e t f) (hp : ∀ whole, isTrue e X.env whole = (do let v ← whole; standAt e.pos; holding [v] (truthy v)) := by intro _; rfl) : DT K X e (tB t) (wTest f) := by
  obtain ⟨rfl, p, q⟩ := he
  refine ⟨rfl, pt_val p hp, fun B HB F Γ σ H Q Φ j w k => q B HB F Γ σ H _ _ j w fun v d F' H' g r φ => ?_⟩
  obtain ⟨c, rfl, φ⟩ := φ
  exact ⟨c, r.bl_inv, k c F' H' g φ⟩
/-- is None, as a test -/
theorem dt_isN {j p} (ha : DB K X a ta fa) : DT K X (.Compare a [.Is] [.Constant .none j p] pos) (tB (tIsN ta)) (wTest (w1 (wIsN false) fa)) := by
  obtain ⟨rfl, pa, qa⟩ := ha
  refine ⟨rfl, pt_cmp (pc_isN pa) rfl, fun B HB F Γ σ H Q Φ j w k => qa B HB F Γ σ H _ _ j w fun v d F' H' g r φ => ?_⟩
  rw [isN_of r]
  obtain ⟨c, e, φ⟩ := φ
  refine ⟨_, rfl, k _ F' H' g ?_⟩
  cases d <;> (cases e; exact φ)
theorem dt_notN {j p} (ha : DB K X a ta fa) : DT K X (.Compare a [.IsNot] [.Constant .none j p] pos) (tB (tNotN ta)) (wTest (w1 (wIsN true) fa)) := by
  obtain ⟨rfl, pa, qa⟩ := ha
  refine ⟨rfl, pt_cmp (pc_notN pa) rfl, fun B HB F Γ σ H Q Φ j w k => qa B HB F Γ σ H _ _ j w fun v d F' H' g r φ => ?_⟩
  rw [isN_of r]
  obtain ⟨c, e, φ⟩ := φ
  refine ⟨_, rfl, k _ F' H' g ?_⟩
  cases d <;> (cases e; exact φ)
/-- by truth -/
@[simp] def truD : D → (Bool → Prop) → Prop
  | .non, Φ => Φ false
  | .bl b, Φ => Φ b
  | .int i, Φ => Φ (i != 0)
  | .str y, Φ => y.length ≤ sizeLine ∧ Φ ((y.length : Int) != 0)
  | .lst xs, Φ => Φ (!xs.isEmpty)
  | .tup xs, Φ => Φ (!xs.isEmpty)
  | .scr xs, Φ => Φ (!xs.isEmpty)
  | .dK xs, Φ => Φ (!xs.isEmpty)
  | .dT xs, Φ => False
theorem RepL.emp {K : Fr} {F : Hp} {vs : List V} {ds : List D} (r : RepL K F vs ds) : vs.isEmpty = ds.isEmpty := by cases r <;> rfl
theorem RepK.emp {K : Fr} {F : Hp} {vs : List (Key × V)} {ds : List (Key × D)} (r : RepK K F vs ds) : vs.isEmpty = ds.isEmpty := by cases r <;> rfl
theorem tru_of {K : Fr} {F H : Hp} {v : V} {d : D} {Φ : Bool → Prop} (s : Same F H) (r : BRep K F H v d) (h : truD d Φ) : ∃ k, TruV K v H k ∧ Φ k := by
  cases d with
  | non => rw [r.non]; exact ⟨false, rfl, h⟩
  | bl b => rw [r.bl]; exact ⟨_, rfl, h⟩
  | int b => rw [r.int]; exact ⟨_, rfl, h⟩
  | str b => rw [r.str]; exact ⟨_, ⟨h.1, rfl⟩, h.2⟩
  | lst xs => obtain ⟨a, vs, rfl, e, q⟩ := r.lst s; exact ⟨_, .inl ⟨vs, .of e, rfl⟩, by rw [q.emp]; exact h⟩
  | tup xs => obtain ⟨a, vs, rfl, e, q⟩ := r.tup s; exact ⟨_, .inr (.inl ⟨vs, .of e, rfl⟩), by rw [q.emp]; exact h⟩
  | scr xs => obtain ⟨a, rfl, e⟩ := r.scr s; have h' : Φ (!xs.isEmpty) := h; exact ⟨_, .inl ⟨_, e, rfl⟩, by simpa using h'⟩
  | dK xs =>
    rcases r with r | ⟨a, o, rfl, n, q, r⟩
    · cases r with
      | ob e r => cases r with | dK r => exact ⟨_, .inr (.inr ⟨_, s _ _ e, rfl⟩), by rw [r.emp]; exact h⟩
    · cases r with | dK r => exact ⟨_, .inr (.inr ⟨_, q, rfl⟩), by rw [r.emp]; exact h⟩
  | dT xs => exact h.elim
def tTru (K : Fr) (t : TE) : TT := fun σ H Q => t σ H fun x H' => ∃ k, TruV K x H' k ∧ Q k H'
@[simp] def wTru (f : WE) : WT := fun Γ Φ => f Γ fun d => truD d Φ
theorem dt_tru (he : DB K X e t f) (hp : ∀ whole, isTrue e X.env whole = (do let v ← whole; standAt e.pos; holding [v] (truthy v)) := by intro _; rfl) : DT K X e (tTru K t) (wTru f) := by
  obtain ⟨rfl, p, q⟩ := he
  refine ⟨rfl, pt_truth p hp, fun B HB F Γ σ H Q Φ j w k => q B HB F Γ σ H _ _ j w fun v d F' H' g r φ => ?_⟩
  obtain ⟨c, h1, h2⟩ := tru_of (j.grow g).fh r φ
  exact ⟨c, h1, k c F' H' g h2⟩
@[simp] def wAnd (f g : WT) : WT := fun Γ Φ => f Γ fun c => if c = true then g Γ Φ else Φ false
@[simp] def wOr (f g : WT) : WT := fun Γ Φ => f Γ fun c => if c = true then Φ true else g Γ Φ
@[simp] def wNot (f : WT) : WT := fun Γ Φ => f Γ fun c => Φ (!c)
theorem DW.toT (h : DW K X e tg g) : DT K X e tg g := by
  obtain ⟨rfl, p, q⟩ := h
  exact ⟨rfl, p.pt, q⟩
theorem dw_and1 (ha : DT K X a tg g) : DW K X (.BoolOp .And [a] pos) tg g := by
  obtain ⟨rfl, p, q⟩ := ha
  exact ⟨rfl, pw_and1 p, q⟩
theorem dw_or1 (ha : DT K X a tg g) : DW K X (.BoolOp .Or [a] pos) tg g := by
  obtain ⟨rfl, p, q⟩ := ha
  exact ⟨rfl, pw_or1 p, q⟩
theorem dw_and (ha : DT K X a tga ga) (hb : DW K X (.BoolOp .And (b :: rest) pos) tgb gb) : DW K X (.BoolOp .And (a :: b :: rest) pos) (tAnd tga tgb) (wAnd ga gb) := by
  obtain ⟨rfl, p, q⟩ := ha
  obtain ⟨_, p', q'⟩ := hb
  refine ⟨rfl, pw_and p p', fun B HB F Γ σ H Q Φ j w k => q B HB F Γ σ H _ _ j w fun c F' H' g φ => ?_⟩
  cases c with
  | true => exact q' B HB F' Γ σ H' _ _ (j.grow g) φ fun b F2 H2 g2 φ2 => k b F2 H2 (g.trans g2) φ2
  | false => exact k _ F' H' g φ
theorem dw_or (ha : DT K X a tga ga) (hb : DW K X (.BoolOp .Or (b :: rest) pos) tgb gb) : DW K X (.BoolOp .Or (a :: b :: rest) pos) (tOr tga tgb) (wOr ga gb) := by
  obtain ⟨rfl, p, q⟩ := ha
  obtain ⟨_, p', q'⟩ := hb
  refine ⟨rfl, pw_or p p', fun B HB F Γ σ H Q Φ j w k => q B HB F Γ σ H _ _ j w fun c F' H' g φ => ?_⟩
  cases c with
  | true => exact k _ F' H' g φ
  | false => exact q' B HB F' Γ σ H' _ _ (j.grow g) φ fun b F2 H2 g2 φ2 => k b F2 H2 (g.trans g2) φ2
theorem dt_not (ha : DT K X a tg g) : DT K X (.UnaryOp .Not a pos) (tNot tg) (wNot g) := by
  obtain ⟨rfl, p, q⟩ := ha
  exact ⟨rfl, pt_not p, fun B HB F Γ σ H Q Φ j w k => q B HB F Γ σ H _ _ j w fun c F' H' g φ => k _ F' H' g φ⟩
/-- as values -/
@[simp] def wAndV (f g : WE) : WE := fun Γ Φ => f Γ fun x => ∃ c, x = .bl c ∧ if c = true then g Γ Φ else Φ (.bl false)
@[simp] def wOrV (f g : WE) : WE := fun Γ Φ => f Γ fun x => ∃ c, x = .bl c ∧ if c = true then Φ (.bl true) else g Γ Φ
theorem de_one {op} (h : DE K X a t f) : DE K X (.BoolOp op [a] pos) t f := by
  obtain ⟨rfl, p, q⟩ := h
  exact ⟨rfl, pe_one p, q⟩
theorem de_and (ha : DE K X a ta fa) (hb : DE K X (.BoolOp .And (b :: rest) pos) tb fb) : DE K X (.BoolOp .And (a :: b :: rest) pos) (tAndV ta tb) (wAndV fa fb) := by
  obtain ⟨rfl, p, q⟩ := ha
  obtain ⟨_, p', q'⟩ := hb
  refine ⟨rfl, pe_and p p', fun B HB F Γ σ H Q Φ j w k => q B HB F Γ σ H _ _ j w fun v d F' H' g r φ => ?_⟩
  obtain ⟨c, rfl, φ⟩ := φ
  refine ⟨c, r.bl_inv, ?_⟩
  cases c with
  | true => exact q' B HB F' Γ σ H' _ _ (j.grow g) φ fun v d F2 H2 g2 r2 φ2 => k v d F2 H2 (g.trans g2) r2 φ2
  | false => exact k _ _ F' H' g (.bl _) φ
theorem de_or (ha : DE K X a ta fa) (hb : DE K X (.BoolOp .Or (b :: rest) pos) tb fb) : DE K X (.BoolOp .Or (a :: b :: rest) pos) (tOrV ta tb) (wOrV fa fb) := by
  obtain ⟨rfl, p, q⟩ := ha
  obtain ⟨_, p', q'⟩ := hb
  refine ⟨rfl, pe_or p p', fun B HB F Γ σ H Q Φ j w k => q B HB F Γ σ H _ _ j w fun v d F' H' g r φ => ?_⟩
  obtain ⟨c, rfl, φ⟩ := φ
  refine ⟨c, r.bl_inv, ?_⟩
  cases c with
  | false => exact q' B HB F' Γ σ H' _ _ (j.grow g) φ fun v d F2 H2 g2 r2 φ2 => k v d F2 H2 (g.trans g2) r2 φ2
  | true => exact k _ _ F' H' g (.bl _) φ
@[simp] def wNotV (f : WE) : WE := fun Γ Φ => f Γ fun x => ∃ c, x = .bl c ∧ Φ (.bl (!c))
theorem de_notV (ha : DE K X a ta fa) : DE K X (.UnaryOp .Not a pos) (tNotV ta) (wNotV fa) := by
  obtain ⟨rfl, p, q⟩ := ha
  refine ⟨rfl, pe_not p, fun B HB F Γ σ H Q Φ j w k => q B HB F Γ σ H _ _ j w fun v d F' H' g r φ => ?_⟩
  obtain ⟨c, rfl, φ⟩ := φ
  exact ⟨c, r.bl_inv, k _ _ F' H' g (.bl _) φ⟩
@[simp] def wIte (g : WT) (fa fb : WE) : WE := fun Γ Φ => g Γ fun c => if c = true then fa Γ Φ else fb Γ Φ
theorem de_ite (hc : DT K X c tg g) (ha : DE K X a ta fa) (hb : DE K X b tb fb) : DE K X (.IfExp c a b pos) (tIf tg ta tb) (wIte g fa fb) := by
  obtain ⟨rfl, p, q⟩ := hc
  obtain ⟨_, pa, qa⟩ := ha
  obtain ⟨_, pb, qb⟩ := hb
  refine ⟨rfl, pe_ifExp p pa pb, fun B HB F Γ σ H Q Φ j w k => q B HB F Γ σ H _ _ j w fun c F' H' g φ => ?_⟩
  cases c with
  | true => exact qa B HB F' Γ σ H' _ _ (j.grow g) φ fun v d F2 H2 g2 r2 φ2 => k v d F2 H2 (g.trans g2) r2 φ2
  | false => exact qb B HB F' Γ σ H' _ _ (j.grow g) φ fun v d F2 H2 g2 r2 φ2 => k v d F2 H2 (g.trans g2) r2 φ2

/-! ### arguments, displays -/
@[simp] def wNil : WA := fun _ Φ => Φ []
@[simp] def wCons (f : WE) (h : WA) : WA := fun Γ Φ => f Γ fun x => h Γ fun xs => Φ (x :: xs)
theorem da_nil (hk : X.K = K := by rfl) : DA K X [] tNil wNil := ⟨hk, pa_nil, fun B HB F Γ σ H Q Φ j w k => k [] [] F H (.refl j.fh) .nil w⟩
theorem da_cons (ha : DE K X e t f) (hr : DA K X es th h) (hs : starEach (e :: es) X.env = (false, eval e X.env) :: starEach es X.env := by rfl) : DA K X (e :: es) (tCons t th) (wCons f h) := by
  obtain ⟨rfl, p, q⟩ := ha
  obtain ⟨_, p', q'⟩ := hr
  refine ⟨rfl, pa_cons p p' hs, fun B HB F Γ σ H Q Φ j w k => q B HB F Γ σ H _ _ j w fun v d F' H' g r φ => ?_⟩
  exact q' B HB F' Γ σ H' _ _ (j.grow g) φ fun vs ds F2 H2 g2 r2 φ2 => k _ _ F2 H2 (g.trans g2) (.cons (r.mono g2.ff) r2) φ2
theorem dab_nil (hk : X.K = K := by rfl) : DAB K X [] tNil wNil := ⟨hk, pa_nil, fun B HB F Γ σ H Q Φ j w k => k [] [] F H (.refl j.fh) .nil w⟩
theorem dab_cons (ha : DB K X e t f) (hr : DAB K X es th h) (hs : starEach (e :: es) X.env = (false, eval e X.env) :: starEach es X.env := by rfl) : DAB K X (e :: es) (tCons t th) (wCons f h) := by
  obtain ⟨rfl, p, q⟩ := ha
  obtain ⟨_, p', q'⟩ := hr
  refine ⟨rfl, pa_cons p p' hs, fun B HB F Γ σ H Q Φ j w k => q B HB F Γ σ H _ _ j w fun v d F' H' g r φ => ?_⟩
  exact q' B HB F' Γ σ H' _ _ (j.grow g) φ fun vs ds F2 H2 g2 r2 φ2 => k _ _ F2 H2 (g.trans g2) (.cons (r.grow g2) r2) φ2
@[simp] def wLst (h : WA) : WE := fun Γ Φ => h Γ fun ds => ds.length ≤ sizeLine ∧ Φ (.lst ds)
@[simp] def wTup (h : WA) : WE := fun Γ Φ => h Γ fun ds => ds.length ≤ sizeLine ∧ Φ (.tup ds)
theorem df_lst (ha : DA K X es th h) : DF K X (.List es pos) (tLst th) (wLst h) := by
  obtain ⟨rfl, p, q⟩ := ha
  refine ⟨rfl, pe_lst p, fun B HB F Γ σ H Q Φ j w k => q B HB F Γ σ H _ _ j w fun vs ds F' H' g r φ => ?_⟩
  refine ⟨by rw [r.length]; exact φ.1, fun p n => ?_⟩
  have j' := j.grow g
  exact k p _ _ F' _ (g.trans (.newH j'.fh n)) (j'.fh.free n) (g.hh.free n) upd_same (.lst r) φ.2
theorem de_tup {x1} (ha : DA K X es th h) : DE K X (.Tuple es x1 pos) (tTup th) (wTup h) := by
  obtain ⟨rfl, p, q⟩ := ha
  refine ⟨rfl, pe_tup p, fun B HB F Γ σ H Q Φ j w k => q B HB F Γ σ H _ _ j w fun vs ds F' H' g r φ => ?_⟩
  refine ⟨by rw [r.length]; exact φ.1, fun p n => ?_⟩
  have j' := j.grow g
  have gn := Grow.new (p := p) (o := .tup vs) j'.fh n
  exact k _ _ _ _ (g.trans gn) (.ob upd_same (.tup (r.mono gn.ff))) φ.2

/-! ### calls of built-ins -/
abbrev WC := List D → (D → Prop) → Prop
def DCall (K : Fr) (r : List V → Hp → VK → Prop) (w : WC) : Prop := ∀ (F H : Hp) (vs : List V) (ds : List D) (Q : VK) (Φ : D → Prop), Same F H → BRepL K F H vs ds → w ds Φ →
  (∀ v z F' H', Grow F H F' H' → Rep K F' v z → Φ z → Q v H') → r vs H Q
def DFCall (K : Fr) (r : List V → Hp → VK → Prop) (w : WC) : Prop := ∀ (F H : Hp) (vs : List V) (ds : List D) (Q : VK) (Φ : D → Prop), Same F H → BRepL K F H vs ds → w ds Φ →
  (∀ p o z F' H', Grow F H F' H' → F' p = none → H p = none → H' p = some o → RepW K F' o z → Φ z → Q (.ref p) H') → r vs H Q
@[simp] def wCall (w : WC) (h : WA) : WE := fun Γ Φ => h Γ fun ds => w ds Φ
theorem de_blt {x : Str} {id : String} {r : List V → Hp → VK → Prop} {w : WC} {p : Pos} (hc : X.K = K → CallR X (.builtin id) r) (hd : DCall K r w) (hm : X.mg x = none) (ha : DAB K X (e :: es) th h) (hg : Gl X x := by rfl) (hv : bootBuiltins x = some (.builtin id) := by decide +kernel) (hn : x ≠ "__name__" := by decide) (hdb : (x == ("__debug__" : Str)) = false := by decide)
    (he : starEach (e :: es) X.env = (false, eval e X.env) :: starEach es X.env := by rfl) (hpl : (backTo pos (starEach es X.env)).any (·.1) = false := by rfl) : DE K X (.Call (.Name x p) (e :: es) [] pos) (tCB r th) (wCall w h) := by
  obtain ⟨rfl, pt, q⟩ := ha
  refine ⟨rfl, pe_callB (hc rfl) hg hm hv pt hn hdb he hpl, fun B HB F Γ σ H Q Φ j w k => q B HB F Γ σ H _ _ j w fun vs ds F' H' g r φ => ?_⟩
  exact hd F' H' vs ds Q Φ (j.grow g).fh r φ fun v z F2 H2 g2 r2 φ2 => k v z F2 H2 (g.trans g2) r2 φ2
theorem df_blt {x : Str} {id : String} {r : List V → Hp → VK → Prop} {w : WC} {p : Pos} (hc : X.K = K → CallR X (.builtin id) r) (hd : DFCall K r w) (hm : X.mg x = none) (ha : DAB K X (e :: es) th h) (hg : Gl X x := by rfl) (hv : bootBuiltins x = some (.builtin id) := by decide +kernel) (hn : x ≠ "__name__" := by decide) (hdb : (x == ("__debug__" : Str)) = false := by decide)
    (he : starEach (e :: es) X.env = (false, eval e X.env) :: starEach es X.env := by rfl) (hpl : (backTo pos (starEach es X.env)).any (·.1) = false := by rfl) : DF K X (.Call (.Name x p) (e :: es) [] pos) (tCB r th) (wCall w h) := by
  obtain ⟨rfl, pt, q⟩ := ha
  refine ⟨rfl, pe_callB (hc rfl) hg hm hv pt hn hdb he hpl, fun B HB F Γ σ H Q Φ j w k => q B HB F Γ σ H _ _ j w fun vs ds F' H' g r φ => ?_⟩
  exact hd F' H' vs ds Q Φ (j.grow g).fh r φ fun p o z F2 H2 g2 n1 n2 eh r2 φ2 => k p o z F2 H2 (g.trans g2) n1 (g.hh.free n2) eh r2 φ2
theorem de_ty {x : Str} {T : String} {r : List V → Hp → VK → Prop} {w : WC} {p : Pos} (hc : X.K = K → CallR X (.type T) r) (hd : DCall K r w) (hm : X.mg x = none) (ha : DAB K X (e :: es) th h) (hg : Gl X x := by rfl) (hv : bootBuiltins x = some (.type T) := by decide +kernel) (hn : x ≠ "__name__" := by decide) (hdb : (x == ("__debug__" : Str)) = false := by decide)
    (he : starEach (e :: es) X.env = (false, eval e X.env) :: starEach es X.env := by rfl) (hpl : (backTo pos (starEach es X.env)).any (·.1) = false := by rfl) : DE K X (.Call (.Name x p) (e :: es) [] pos) (tCB r th) (wCall w h) := by
  obtain ⟨rfl, pt, q⟩ := ha
  refine ⟨rfl, pe_callTy (hc rfl) hg hm hv pt hn hdb he hpl, fun B HB F Γ σ H Q Φ j w k => q B HB F Γ σ H _ _ j w fun vs ds F' H' g r φ => ?_⟩
  exact hd F' H' vs ds Q Φ (j.grow g).fh r φ fun v z F2 H2 g2 r2 φ2 => k v z F2 H2 (g.trans g2) r2 φ2
theorem df_ty {x : Str} {T : String} {r : List V → Hp → VK → Prop} {w : WC} {p : Pos} (hc : X.K = K → CallR X (.type T) r) (hd : DFCall K r w) (hm : X.mg x = none) (ha : DAB K X (e :: es) th h) (hg : Gl X x := by rfl) (hv : bootBuiltins x = some (.type T) := by decide +kernel) (hn : x ≠ "__name__" := by decide) (hdb : (x == ("__debug__" : Str)) = false := by decide)
    (he : starEach (e :: es) X.env = (false, eval e X.env) :: starEach es X.env := by rfl) (hpl : (backTo pos (starEach es X.env)).any (·.1) = false := by rfl) : DF K X (.Call (.Name x p) (e :: es) [] pos) (tCB r th) (wCall w h) := by
  obtain ⟨rfl, pt, q⟩ := ha
  refine ⟨rfl, pe_callTy (hc rfl) hg hm hv pt hn hdb he hpl, fun B HB F Γ σ H Q Φ j w k => q B HB F Γ σ H _ _ j w fun vs ds F' H' g r φ => ?_⟩
  exact hd F' H' vs ds Q Φ (j.grow g).fh r φ fun p o z F2 H2 g2 n1 n2 eh r2 φ2 => k p o z F2 H2 (g.trans g2) n1 (g.hh.free n2) eh r2 φ2

/-! ### items, slices -/
theorem de_ix {r : R2} {w : W2} (hr : X.K = K → IxR X r) (hd : DOp2 K r w) (ha : DB K X a ta fa) (hb : DB K X b tb fb) (hs : PlainIx b := by exact fun _ _ => rfl) : DE K X (.Subscript a b pos) (tOp r ta tb) (w2 w fa fb) := by
  obtain ⟨rfl, pa, qa⟩ := ha
  obtain ⟨_, pb, qb⟩ := hb
  refine ⟨rfl, pe_ix (hr rfl) pa pb hs, fun B HB F Γ σ H Q Φ j w k => two_run qa qb j w fun F' H' x y d e g j' rx ry w' => ?_⟩
  exact hd F' H' x y d e Q Φ j'.fh rx ry w' fun v z F2 H2 g2 r φ => k v z F2 H2 (g.trans g2) r φ
abbrev WO := GE → (Option Int → Prop) → Prop
structure DO (K : Fr) (X : Cx) (e : Option Expr) (t : TO) (f : WO) : Prop where
  k : X.K = K
  p : PO X e t
  s : ∀ (B HB F : Hp) (Γ : GE) (σ : L2.St) (H : Hp) (Q : Option Int → Hp → Prop) (Φ : Option Int → Prop), J K B HB F Γ σ H → f Γ Φ → (∀ o F' H', Grow F H F' H' → Φ o → Q o H') → t σ H Q
@[simp] def wNoPart : WO := fun _ Φ => Φ none
@[simp] def wPart (f : WE) : WO := fun Γ Φ => f Γ fun d => ∃ i, d = .int i ∧ Φ (some i)
theorem do_none (hk : X.K = K := by rfl) : DO K X none tNoPart wNoPart := ⟨hk, po_none, fun B HB F Γ σ H Q Φ j w k => k _ F H (.refl j.fh) w⟩
theorem do_some (he : DE K X e t f) : DO K X (some e) (tPart t) (wPart f) := by
  obtain ⟨rfl, p, q⟩ := he
  refine ⟨rfl, po_some p, fun B HB F Γ σ H Q Φ j w k => q B HB F Γ σ H _ _ j w fun v d F' H' g r φ => ?_⟩
  obtain ⟨i, rfl, φ⟩ := φ
  exact ⟨i, r.int_inv, k _ F' H' g φ⟩
def cutD (xs : List D) (lo hi : Option Int) : List D := (xs.drop (HT.sIx xs.length 0 lo)).take (HT.sIx xs.length xs.length hi - HT.sIx xs.length 0 lo)
theorem RepL.cut {K : Fr} {F : Hp} {vs : List V} {ds : List D} (r : RepL K F vs ds) (lo hi : Option Int) : RepL K F (cutV vs lo hi) (cutD ds lo hi) := by
  unfold cutV cutD
  rw [r.length]
  exact (r.drop _).take _
@[simp] def wSl (w : D → Option Int → Option Int → (D → Prop) → Prop) (fa : WE) (lo hi : WO) : WE := fun Γ Φ => fa Γ fun d => lo Γ fun l => hi Γ fun u => w d l u Φ
@[simp] def slL : D → Option Int → Option Int → (D → Prop) → Prop
  | .lst xs, l, u, Φ => Φ (.lst (cutD xs l u))
  | .scr ns, l, u, Φ => Φ (.lst (cutD (ns.map .int) l u))
  | _, _, _, _ => False
theorem df_slice {lo hi : Option Expr} {fl fh : WO} {tl tu : TO} {p2 : Pos} (ha : DB K X a ta fa) (hl : DO K X lo tl fl) (hh : DO K X hi tu fh) : DF K X (.Subscript a (.Slice lo hi none p2) pos) (tSl (rSlL K) ta tl tu) (wSl slL fa fl fh) := by
  obtain ⟨rfl, p, q⟩ := ha
  obtain ⟨_, pl, ql⟩ := hl
  obtain ⟨_, ph, qh⟩ := hh
  refine ⟨rfl, pe_slice sl_list p pl ph, fun B HB F Γ σ H Q Φ j w k => q B HB F Γ σ H _ _ j w fun v d F1 H1 g1 r φ => ?_⟩
  refine ql B HB F1 Γ σ H1 _ _ (j.grow g1) φ fun l F2 H2 g2 φ2 => ?_
  refine qh B HB F2 Γ σ H2 _ _ ((j.grow g1).grow g2) φ2 fun u F3 H3 g3 φ3 => ?_
  have g := (g1.trans g2).trans g3
  have j3 := j.grow g
  have r3 := (r.grow g2).grow g3
  cases d with
  | lst xs =>
    obtain ⟨a, vs, rfl, e, rl⟩ := r3.lst j3.fh
    exact ⟨a, vs, rfl, .of e, fun p n => k p _ _ F3 _ (g.trans (.newH j3.fh n)) (j3.fh.free n) (g.hh.free n) upd_same (.lst (rl.cut l u)) φ3⟩
  | scr ns =>
    obtain ⟨a, rfl, e⟩ := r3.scr j3.fh
    exact ⟨a, _, rfl, e, fun p n => k p _ _ F3 _ (g.trans (.newH j3.fh n)) (j3.fh.free n) (g.hh.free n) upd_same (.lst ((RepL.ofInts ns).cut l u)) φ3⟩
  | _ => exact φ3.elim
end
end DL

set_option Elab.async false
set_option linter.all false
set_option maxRecDepth 100000
set_option maxHeartbeats 4000000
namespace DL
open PySem PySem.Spec PyProof.Rows L2

/-! ### what is walked -/
structure Wk (K : Fr) (F : Hp) (Jt : It) (ds : List D) : Prop where
  stop : ∀ i H, Same F H → ds.length ≤ i → Jt.stop i H
  go : ∀ i H, Same F H → i < ds.length → Jt.go i H
  yld : ∀ i F1 H x H', Same F F1 → Same F1 H → i < ds.length → Jt.yld i H x H' → ∃ d F2, ds[i]? = some d ∧ Grow F1 H F2 H' ∧ Rep K F2 x d
theorem Wk.mono {K : Fr} {F F' : Hp} {Jt : It} {ds : List D} (h : Wk K F Jt ds) (s : Same F F') : Wk K F' Jt ds :=
  ⟨fun i H q => h.stop i H (s.trans q), fun i H q => h.go i H (s.trans q), fun i F1 H x H' q => h.yld i F1 H x H' (s.trans q)⟩
def SI (K : Fr) (t : TI) (f : WA) : Prop := ∀ (B HB F : Hp) (Γ : GE) (σ : L2.St) (H : Hp) (R : It → Hp → Prop) (Φ : List D → Prop), J K B HB F Γ σ H → f Γ Φ → (∀ Jt ds F' H', Grow F H F' H' → Wk K F' Jt ds → Φ ds → R Jt H') → t σ H R
structure DI (K : Fr) (X : Cx) (tg it : Expr) (t : TI) (f : WA) : Prop where
  k : X.K = K
  p : PI X tg it t
  s : SI K t f
theorem wk_list {K : Fr} {F : Hp} {a : Addr} {vs : List V} {ds : List D} (h : SqL K F a vs) (r : RepL K F vs ds) : Wk K F (Itl K a) ds := by
  refine ⟨fun i H s hi => ⟨vs, s.seq h, by rw [r.length]; exact hi⟩, fun i H s hi => ?_, fun i F1 H x H' s1 s2 hi y => ?_⟩
  · have hv : i < vs.length := by rw [r.length]; exact hi
    exact ⟨vs, vs[i], s.seq h, List.getElem?_eq_getElem hv⟩
  · obtain ⟨e, y⟩ := y
    subst e
    obtain ⟨d, e1, e2⟩ := r.getV (y vs ((s1.trans s2).seq h))
    exact ⟨d, F1, e1, .refl s2, e2.mono s1⟩
theorem same_sqT {K : Fr} {H H' : Hp} {a : Addr} {xs : List V} (e : Same H H') (h : SqT K H a xs) : SqT K H' a xs := by
  rcases h with (h | ⟨o, h⟩) | h
  · exact .inl (.inl (e _ _ h))
  · exact .inl (.inr ⟨o, e _ _ h⟩)
  · exact .inr h
theorem wk_tup {K : Fr} {F : Hp} {a : Addr} {vs : List V} {ds : List D} (h : SqT K F a vs) (r : RepL K F vs ds) : Wk K F (Itt K a) ds := by
  refine ⟨fun i H s hi => ⟨vs, same_sqT s h, by rw [r.length]; exact hi⟩, fun i H s hi => ?_, fun i F1 H x H' s1 s2 hi y => ?_⟩
  · have hv : i < vs.length := by rw [r.length]; exact hi
    exact ⟨vs, vs[i], same_sqT s h, List.getElem?_eq_getElem hv⟩
  · obtain ⟨e, y⟩ := y
    subst e
    obtain ⟨d, e1, e2⟩ := r.getV (y vs (same_sqT (s1.trans s2) h))
    exact ⟨d, F1, e1, .refl s2, e2.mono s1⟩
section
variable {K : Fr} {X : Cx} {tg e a b : Expr} {es : List Expr} {t ta tb : TE} {th : TA} {f fa fb : WE} {h : WA} {pos p : Pos}
@[simp] def iterL : D → (List D → Prop) → Prop
  | .lst ds, Φ => Φ ds
  | .scr ns, Φ => Φ (ns.map .int)
  | _, _ => False
@[simp] def iterT : D → (List D → Prop) → Prop
  | .tup ds, Φ => Φ ds
  | _, _ => False
@[simp] def wItL (f : WE) : WA := fun Γ Φ => f Γ fun d => iterL d Φ
@[simp] def wItT (f : WE) : WA := fun Γ Φ => f Γ fun d => iterT d Φ
theorem di_list (he : DE K X e t f) : DI K X tg e (iList K t) (wItL f) := by
  obtain ⟨rfl, p, q⟩ := he
  refine ⟨rfl, pi_list p, fun B HB F Γ σ H R Φ j w k => q B HB F Γ σ H _ _ j w fun v d F' H' g r φ => ?_⟩
  cases d with
  | lst ds =>
    obtain ⟨a, vs, rfl, e, rl⟩ := r.lst_inv
    exact ⟨a, rfl, ⟨vs, .of (g.fh _ _ e)⟩, k _ ds F' H' g (wk_list (.of e) rl) φ⟩
  | scr ns =>
    obtain ⟨a, rfl, e⟩ := r.scr_inv
    exact ⟨a, rfl, ⟨_, g.fh.seq e⟩, k _ _ F' H' g (wk_list e (RepL.ofInts ns)) φ⟩
  | _ => exact φ.elim
theorem di_tup (he : DE K X e t f) : DI K X tg e (iTup K t) (wItT f) := by
  obtain ⟨rfl, p, q⟩ := he
  refine ⟨rfl, pi_tup p, fun B HB F Γ σ H R Φ j w k => q B HB F Γ σ H _ _ j w fun v d F' H' g r φ => ?_⟩
  cases d with
  | tup ds =>
    obtain ⟨a, vs, rfl, e, rl⟩ := r.tup_inv
    exact ⟨a, rfl, ⟨vs, .of (g.fh _ _ e)⟩, k _ ds F' H' g (wk_tup (.of e) rl) φ⟩
  | _ => exact φ.elim
def rngD (lo : Int) (n : Nat) : List D := (List.range n).map fun (i : Nat) => D.int (lo + i)
theorem rngD_len (lo : Int) (n : Nat) : (rngD lo n).length = n := by simp [rngD]
theorem rngD_get {lo : Int} {n i : Nat} (h : i < n) : (rngD lo n)[i]? = some (.int (lo + i)) := by simp [rngD, h]
theorem wk_range {K : Fr} {F : Hp} (lo : Int) (n : Nat) : Wk K F (Itr lo n) (rngD lo n) := by
  refine ⟨fun i H s hi => ?_, fun i H s hi => ?_, fun i F1 H x H' s1 s2 hi y => ?_⟩
  · rw [rngD_len] at hi; exact hi
  · rw [rngD_len] at hi; exact hi
  · obtain ⟨rfl, rfl⟩ := y
    rw [rngD_len] at hi
    exact ⟨_, F1, rngD_get hi, .refl s2, .int _⟩
@[simp] def iterR1 : List D → (List D → Prop) → Prop
  | [.int j], Φ => -(2 ^ 62) ≤ j ∧ j < 2 ^ 62 ∧ Φ (rngD 0 j.toNat)
  | _, _ => False
@[simp] def iterR2 : List D → (List D → Prop) → Prop
  | [.int i, .int j], Φ => (-(2 ^ 62) ≤ i ∧ i < 2 ^ 62 ∧ -(2 ^ 62) ≤ j ∧ j < 2 ^ 62) ∧ Φ (rngD i (j - i).toNat)
  | _, _ => False
@[simp] def wItR1 (h : WA) : WA := fun Γ Φ => h Γ fun ds => iterR1 ds Φ
@[simp] def wItR2 (h : WA) : WA := fun Γ Φ => h Γ fun ds => iterR2 ds Φ
theorem di_range1 (hm : X.mg "range" = none) (ha : DA K X [a] th h) (hg : Gl X "range" := by rfl) (hs : starEach [a] X.env = [(false, eval a X.env)] := by rfl) : DI K X tg (.Call (.Name "range" p) [a] [] pos) (iRng1 th) (wItR1 h) := by
  obtain ⟨rfl, pt, q⟩ := ha
  refine ⟨rfl, pi_range1 hg hm pt hs, fun B HB F Γ σ H R Φ j w k => q B HB F Γ σ H _ _ j w fun vs ds F' H' g r φ => ?_⟩
  match ds, φ with
  | [.int i], φ =>
    cases r with
    | cons r1 r2 =>
      cases r2
      rw [r1.int_inv]
      exact ⟨i, rfl, φ.1, φ.2.1, k _ _ F' H' g (wk_range 0 _) φ.2.2⟩
theorem di_range2 (hm : X.mg "range" = none) (ha : DA K X [a, b] th h) (hg : Gl X "range" := by rfl) (hs : starEach [a, b] X.env = [(false, eval a X.env), (false, eval b X.env)] := by rfl) (hs2 : starEach [b] X.env = [(false, eval b X.env)] := by rfl) :
    DI K X tg (.Call (.Name "range" p) [a, b] [] pos) (iRng2 th) (wItR2 h) := by
  obtain ⟨rfl, pt, q⟩ := ha
  refine ⟨rfl, pi_range2 hg hm pt hs hs2, fun B HB F Γ σ H R Φ j w k => q B HB F Γ σ H _ _ j w fun vs ds F' H' g r φ => ?_⟩
  match ds, φ with
  | [.int i1, .int i2], φ =>
    cases r with
    | cons r1 r2 =>
      cases r2 with
      | cons r2 r3 =>
        cases r3
        rw [r1.int_inv, r2.int_inv]
        exact ⟨i1, i2, rfl, φ.1, k _ _ F' H' g (wk_range i1 _) φ.2⟩
/-- enumerate of a list -/
def enumD (ds : List D) : List D := ds.mapIdx fun (i : Nat) d => .tup [.int (i : Int), d]
theorem enumD_len (ds : List D) : (enumD ds).length = ds.length := by simp [enumD]
theorem enumD_get {ds : List D} {i : Nat} {d : D} (h : ds[i]? = some d) : (enumD ds)[i]? = some (.tup [.int (i : Int), d]) := by simp [enumD, h]
theorem wk_enum {K : Fr} {F : Hp} {a : Addr} {vs : List V} {ds : List D} (h : SqL K F a vs) (r : RepL K F vs ds) : Wk K F (Ite K a) (enumD ds) := by
  refine ⟨fun i H s hi => ⟨vs, s.seq h, by rw [r.length]; rw [enumD_len] at hi; exact hi⟩, fun i H s hi => ?_, fun i F1 H x H' s1 s2 hi y => ?_⟩
  · have hv : i < vs.length := by rw [r.length]; rw [enumD_len] at hi; exact hi
    exact ⟨vs, vs[i], s.seq h, List.getElem?_eq_getElem hv⟩
  · obtain ⟨T, x, rfl, nT, rfl, y⟩ := y
    obtain ⟨d, e1, e2⟩ := r.getV (y vs ((s1.trans s2).seq h))
    have g := Grow.new (p := T) (o := .tup [.int (i : Nat), x]) s2 nT
    exact ⟨_, _, enumD_get e1, g, .ob upd_same (.tup (.cons (.int _) (.cons ((e2.mono s1).mono g.ff) .nil)))⟩
@[simp] def iterE : List D → (List D → Prop) → Prop
  | [.lst ds], Φ => Φ (enumD ds)
  | [.scr ns], Φ => Φ (enumD (ns.map .int))
  | _, _ => False
@[simp] def wItE (h : WA) : WA := fun Γ Φ => h Γ fun ds => iterE ds Φ
theorem di_enum {elts : List Expr} {kk : Nat} {tpos : Pos} (hm : X.mg "enumerate" = none) (ha : DA K X [a] th h) (hg : Gl X "enumerate" := by rfl) (hs : starEach [a] X.env = [(false, eval a X.env)] := by rfl) :
    DI K X (.Tuple elts kk tpos) (.Call (.Name "enumerate" p) [a] [] pos) (iEnum K th) (wItE h) := by
  obtain ⟨rfl, pt, q⟩ := ha
  refine ⟨rfl, pi_enum hg hm pt hs, fun B HB F Γ σ H R Φ j w k => q B HB F Γ σ H _ _ j w fun vs ds F' H' g r φ => ?_⟩
  match ds, φ with
  | [.lst ds], φ =>
    cases r with
    | cons r1 r2 =>
      cases r2
      obtain ⟨a, vs, rfl, e, rl⟩ := r1.lst_inv
      exact ⟨a, vs, rfl, .of (g.fh _ _ e), k _ _ F' H' g (wk_enum (.of e) rl) φ⟩
  | [.scr ns], φ =>
    cases r with
    | cons r1 r2 =>
      cases r2
      obtain ⟨a, rfl, e⟩ := r1.scr_inv
      exact ⟨a, _, rfl, g.fh.seq e, k _ _ F' H' g (wk_enum e (RepL.ofInts ns)) φ⟩
/-- zip of two lists -/
def zipD (ds es : List D) : List D := List.zipWith (fun a b => D.tup [a, b]) ds es
theorem wk_zip {K : Fr} {F : Hp} {a b : Addr} {vs ws : List V} {ds es : List D} (h : SqL K F a vs) (r : RepL K F vs ds) (h' : SqL K F b ws) (r' : RepL K F ws es) : Wk K F (Itz K a b) (zipD ds es) := by
  have hl : (zipD ds es).length = min vs.length ws.length := by rw [r.length, r'.length]; simp [zipD]
  refine ⟨fun i H s hi => ⟨vs, ws, s.seq h, s.seq h', by omega⟩, fun i H s hi => ?_, fun i F1 H x H' s1 s2 hi y => ?_⟩
  · have hv : i < vs.length := by omega
    have hw : i < ws.length := by omega
    exact ⟨vs, ws, vs[i], ws[i], s.seq h, s.seq h', List.getElem?_eq_getElem hv, List.getElem?_eq_getElem hw⟩
  · obtain ⟨T, x, z, rfl, nT, rfl, y1, y2⟩ := y
    obtain ⟨d, e1, e2⟩ := r.getV (y1 vs ((s1.trans s2).seq h))
    obtain ⟨d', e1', e2'⟩ := r'.getV (y2 ws ((s1.trans s2).seq h'))
    have g := Grow.new (p := T) (o := .tup [x, z]) s2 nT
    exact ⟨.tup [d, d'], _, by simp [zipD, List.getElem?_zipWith, e1, e1'], g, .ob upd_same (.tup (.cons ((e2.mono s1).mono g.ff) (.cons ((e2'.mono s1).mono g.ff) .nil)))⟩
@[simp] def iterZ : List D → (List D → Prop) → Prop
  | [.lst ds, .lst es], Φ => Φ (zipD ds es)
  | _, _ => False
@[simp] def wItZ (h : WA) : WA := fun Γ Φ => h Γ fun ds => iterZ ds Φ
end

/-! ### targets -/
abbrev WG := D → GE → (GE → Prop) → Prop
abbrev WGs := List D → GE → (GE → Prop) → Prop
theorem wipe_get (σ : L2.St) : ∀ (vs : List Nat) (k : Nat), (wipe σ vs)[k]? = if k ∈ vs ∧ k < σ.length then some none else σ[k]?
  | [], k => by simp [wipe]
  | v :: vs, k => by
    unfold wipe
    rw [List.getElem?_set, wipe_length, wipe_get σ vs k]
    by_cases h : v = k
    · subst h
      by_cases hl : v < σ.length
      · simp [hl]
      · simp [hl]
    · have h' : k ≠ v := fun e => h e.symm
      simp [h, h']
theorem wipe_set {σ : L2.St} {i : Nat} {x : Option V} {vs : List Nat} (h : i ∈ vs) : wipe (σ.set i x) vs = wipe σ vs := by
  apply List.ext_getElem?
  intro k
  rw [wipe_get, wipe_get]
  by_cases hk : k = i
  · subst hk
    by_cases hl : k < σ.length
    · simp [h, hl]
    · simp [h, hl]
  · have : i ≠ k := fun e => hk e.symm
    simp [List.getElem?_set_ne this]
theorem wipe_wipe (σ : L2.St) (vs : List Nat) : wipe (wipe σ vs) vs = wipe σ vs := by
  apply List.ext_getElem?
  intro k
  rw [wipe_get, wipe_get, wipe_length]
  split <;> rfl
def SG (K : Fr) (S : List Nat) (t : TG) (g : WG) : Prop := ∀ (B HB F : Hp) (Γ : GE) (σ : L2.St) (H : Hp) (v : V) (d : D) (Q : L2.St → Hp → Prop) (Φ : GE → Prop), J K B HB F Γ σ H → Rep K F v d → g d Γ Φ →
    (∀ Γ' σ', J K B HB F Γ' σ' H → (∀ vs : List Nat, (∀ i ∈ S, i ∈ vs) → wipe σ' vs = wipe σ vs) → Φ Γ' → Q σ' H) → t v σ H Q
def SGs (K : Fr) (S : List Nat) (t : TGs) (g : WGs) : Prop := ∀ (B HB F : Hp) (Γ : GE) (σ : L2.St) (H : Hp) (vs : List V) (ds : List D) (Q : L2.St → Hp → Prop) (Φ : GE → Prop), J K B HB F Γ σ H → RepL K F vs ds → g ds Γ Φ →
    (∀ Γ' σ', J K B HB F Γ' σ' H → (∀ us : List Nat, (∀ i ∈ S, i ∈ us) → wipe σ' us = wipe σ us) → Φ Γ' → Q σ' H) → t vs σ H Q
structure DG (K : Fr) (X : Cx) (tg : Expr) (S : List Nat) (t : TG) (g : WG) : Prop where
  k : X.K = K
  p : PG X tg t
  s : SG K S t g
structure DGs (K : Fr) (X : Cx) (ts : List Expr) (S : List Nat) (t : TGs) (g : WGs) : Prop where
  k : X.K = K
  p : PGs X ts t
  s : SGs K S t g
section
variable {K : Fr} {X : Cx} {e : Expr} {es : List Expr} {pos : Pos}
@[simp] def gSet (i : Nat) : WG := fun d Γ Φ => Φ (Γ.set i (some (.val d)))
theorem dg_name (i : Nat) {x : Str} (hN : X.N.Nodup) (hk : X.K = K := by rfl) (hi : X.N[i]? = some x := by rfl) (hx : Loc X.env.scope x := by first | exact Or.inl rfl | exact Or.inr rfl) (hf : X.fn x = true ∨ X.env.scope.names.lookup x = some .local := by first | exact .inl rfl | exact .inr rfl) : DG K X (.Name x pos) [i] (gName i) (gSet i) := by
  refine ⟨hk, pg_name hN hi hx hf, fun B HB F Γ σ H v d Q Φ j r w k => ?_⟩
  exact k _ _ (j.set i r) (fun vs h => wipe_set (h i (by simp))) w
@[simp] def gsNil : WGs
  | [], Γ, Φ => Φ Γ
  | _ :: _, _, _ => False
@[simp] def gsCons (g : WG) (h : WGs) : WGs
  | d :: r, Γ, Φ => g d Γ fun Γ' => h r Γ' Φ
  | [], _, _ => False
theorem dgs_nil (hk : X.K = K := by rfl) : DGs K X [] [] gNil gsNil := by
  refine ⟨hk, pgs_nil, fun B HB F Γ σ H vs ds Q Φ j r w k => ?_⟩
  cases r with
  | nil => exact ⟨rfl, k _ _ j (fun _ _ => rfl) w⟩
  | cons _ _ => exact w.elim
theorem dgs_cons {S S' : List Nat} {t : TG} {u : TGs} {g : WG} {h : WGs} (h1 : DG K X e S t g) (h2 : DGs K X es S' u h)
    (hs : (assignEach (e :: es) X.env).map (·.2) = assign e X.env :: (assignEach es X.env).map (·.2) := by rfl) : DGs K X (e :: es) (S ++ S') (gCons t u) (gsCons g h) := by
  refine ⟨h1.k, pgs_cons h1.p h2.p hs, fun B HB F Γ σ H vs ds Q Φ j r w k => ?_⟩
  cases r with
  | nil => exact w.elim
  | cons r1 r2 =>
    refine ⟨_, _, rfl, h1.s B HB F Γ σ H _ _ _ _ j r1 w fun Γ1 σ1 j1 c1 φ1 => ?_⟩
    refine h2.s B HB F Γ1 σ1 H _ _ _ _ j1 r2 φ1 fun Γ2 σ2 j2 c2 φ2 => ?_
    exact k Γ2 σ2 j2 (fun us hu => (c2 us fun i hi => hu i (List.mem_append_right _ hi)).trans (c1 us fun i hi => hu i (List.mem_append_left _ hi))) φ2
@[simp] def gTupD (n : Nat) (h : WGs) : WG := fun d Γ Φ => match d with
  | .tup ds => ds.length = n ∧ h ds Γ Φ
  | _ => False
theorem dg_tup {k n : Nat} {S : List Nat} {t : TGs} {h : WGs} (hc : X.calm = true) (hh : DGs K X es S t h)
    (hn : (assignEach es X.env).length = n := by rfl) (hst : (assignEach es X.env).findIdx? (·.1) = none := by rfl) : DG K X (.Tuple es k pos) S (gTup K n t) (gTupD n h) := by
  obtain rfl := hh.k
  refine ⟨rfl, pg_tup hc hh.p hn hst, fun B HB F Γ σ H v d Q Φ j r w k => ?_⟩
  cases d with
  | tup ds =>
    obtain ⟨a, vs, rfl, e, rl⟩ := r.tup_inv
    exact ⟨a, vs, rfl, .of (j.fh _ _ e), by rw [rl.length]; exact w.1, hh.s B HB F Γ σ H vs ds Q Φ j rl w.2 k⟩
  | _ => exact w.elim
end

/-! ### comprehensions -/
structure DTs (K : Fr) (X : Cx) (ifs : List Expr) (t : TT) (f : WT) : Prop where
  k : X.K = K
  p : PTs X ifs t
  s : STt K t f
@[simp] def wYes : WT := fun _ Φ => Φ true
theorem dts_nil {K : Fr} {X : Cx} (hk : X.K = K := by rfl) : DTs K X [] tYes wYes := ⟨hk, pts_nil, fun B HB F Γ σ H Q Φ j w k => k true F H (.refl j.fh) w⟩
theorem dts_one {K : Fr} {X : Cx} {c : Expr} {t : TT} {f : WT} (h : DT K X c t f) : DTs K X [c] t f := ⟨h.k, pts_one h.p, h.s⟩
@[simp] def wipeG (Γ : GE) : List Nat → GE
  | [] => Γ
  | v :: vs => (wipeG Γ vs).set v none
def lcGo (g : WG) (tt : WT) (te : WE) (Γ : GE) : List D → List D → (List D → Prop) → Prop
  | [], acc, Φ => Φ acc
  | d :: ds, acc, Φ => g d Γ fun Γ1 => tt Γ1 fun b => if b = true then te Γ1 fun y => acc.length < sizeLine ∧ lcGo g tt te Γ ds (acc ++ [y]) Φ else lcGo g tt te Γ ds acc Φ
def wLc (wi : WA) (g : WG) (tt : WT) (te : WE) (vs : List Nat) : WE := fun Γ Φ => wi Γ fun ds => lcGo g tt te (wipeG Γ vs) ds [] fun ys => Φ (.lst ys)
theorem J.wipe {K : Fr} {B HB F H : Hp} {Γ : GE} {σ : L2.St} (j : J K B HB F Γ σ H) : ∀ vs : List Nat, J K B HB F (wipeG Γ vs) (L2.wipe σ vs) H
  | [] => j
  | v :: vs => by
    have j' := j.wipe vs
    unfold wipeG L2.wipe
    refine ⟨j'.gr, by simp [j'.len], fun k s h => ?_, fun k l d1 d2 b nkl e1 e2 e3 => ?_⟩
    · have f1 : v ≠ k := by
        rintro rfl
        rw [List.getElem?_set] at h
        split at h
        · split at h <;> cases h
        · exact absurd rfl (by assumption)
      rw [List.getElem?_set_ne f1] at h ⊢
      exact j'.sl k s h
    · have f1 : v ≠ k := by
        rintro rfl
        rw [List.getElem?_set] at e1
        split at e1
        · split at e1 <;> cases e1
        · exact absurd rfl (by assumption)
      have f2 : v ≠ l := by
        rintro rfl
        rw [List.getElem?_set] at e2
        split at e2
        · split at e2 <;> cases e2
        · exact absurd rfl (by assumption)
      rw [List.getElem?_set_ne f1] at e1 e3
      rw [List.getElem?_set_ne f2] at e2 ⊢
      exact j'.ow k l _ _ b nkl e1 e2 e3
theorem Grow.updNew {F H F' H' : Hp} {p : Addr} {o : HO} (g : Grow F H F' H') (n : H p = none) (nf : F' p = none) : Grow F H F' (upd H' p o) :=
  ⟨g.ff, fun b u e => by rw [upd_ne (ne_of_none e n)]; exact g.hh _ _ e, fun b u e => by rw [upd_ne (ne_of_none e nf)]; exact g.fh _ _ e, g.ow⟩
section
variable {K : Fr} {X : Cx} {elt tg iter : Expr} {ifs : List Expr} {scope : Scope} {own : List (Str × Nat)} {pos : Pos} {wi : TI} {g : TG} {tt : TT} {te : TE} {fi : WA} {fg : WG} {ft : WT} {fe : WE} {S : List Nat}
theorem lc_sound {K : Fr} {vs : List Nat} (hi : SI K wi fi) (hg : SG K S g fg) (ht : STt K tt ft) (he : SE K te fe) (hS : ∀ i ∈ S, i ∈ vs) : SF K (tLc wi g tt te vs) (wLc fi fg ft fe vs) := by
  intro B HB F Γ σ H Q Φ j w k
  refine hi B HB F Γ σ H _ _ j w fun Jt ds F1 H1 g1 wk φ => ?_
  intro D nD
  have j1 := j.grow g1
  have jw := j1.wipe vs
  refine ⟨fun i m H2 => ∃ F2 us acc, m = ds.length - i ∧ i ≤ ds.length ∧ Grow F1 H1 F2 H2 ∧ F2 D = none ∧ H2 D = some (.lst us) ∧ RepL K F2 us acc ∧ lcGo fg ft fe (wipeG Γ vs) (ds.drop i) acc fun ys => Φ (.lst ys),
    ⟨ds.length, F1, [], [], rfl, Nat.zero_le _, .newH j1.fh nD, j1.fh.free nD, upd_same, .nil, φ⟩, ?_⟩
  rintro i m H2 ⟨F2, us, acc, rfl, hi2, g2, nF, eD, ra, w2⟩
  by_cases hlt : i < ds.length
  · have s12 : Same F1 F2 := g2.ff
    refine .inr ⟨wk.go i H2 (s12.trans g2.fh) hlt, fun H' => ∃ F3 us' acc', Grow F1 H1 F3 H' ∧ F3 D = none ∧ H' D = some (.lst us') ∧ RepL K F3 us' acc' ∧ lcGo fg ft fe (wipeG Γ vs) (ds.drop (i + 1)) acc' fun ys => Φ (.lst ys),
      fun H' ⟨F3, us', acc', z⟩ => ⟨ds.length - (i + 1), by omega, F3, us', acc', rfl, hlt, z⟩, fun x H' y => ?_⟩
    obtain ⟨d, F3, ed, g3, r3⟩ := wk.yld i F2 H2 x H' s12 g2.fh hlt y
    have edrop : ds.drop i = d :: ds.drop (i + 1) := by
      have := List.getElem?_eq_some_iff.mp ed
      obtain ⟨h1, h2⟩ := this
      rw [← h2]; exact List.drop_eq_getElem_cons h1
    rw [edrop] at w2
    have g13 := g2.trans g3
    have nF3 : F3 D = none := g3.ow D (by rw [eD]; simp) nF
    have eD3 : H' D = some (.lst us) := g3.hh _ _ eD
    refine hg B HB F3 (wipeG Γ vs) (wipe σ vs) H' x d _ _ (jw.grow g13) r3 w2 fun Γ4 σ4 j4 c4 w4 => ?_
    refine ⟨(c4 vs hS).trans (wipe_wipe σ vs), ?_⟩
    refine ht B HB F3 Γ4 σ4 H' _ _ j4 w4 fun b F5 H5 g5 w5 => ?_
    have nF5 : F5 D = none := g5.ow D (by rw [eD3]; simp) nF3
    have eD5 : H5 D = some (.lst us) := g5.hh _ _ eD3
    cases b with
    | false => exact ⟨F5, us, acc, g13.trans g5, nF5, eD5, (ra.mono g3.ff).mono g5.ff, w5⟩
    | true =>
      refine he B HB F5 Γ4 σ4 H5 _ _ (j4.grow g5) w5 fun v y F6 H6 g6 r6 w6 => ?_
      have nF6 : F6 D = none := g6.ow D (by rw [eD5]; simp) nF5
      have eD6 : H6 D = some (.lst us) := g6.hh _ _ eD5
      have ra6 := ((ra.mono g3.ff).mono g5.ff).mono g6.ff
      refine ⟨us, eD6, by rw [ra6.length]; exact w6.1, F6, _, _, ((g13.trans g5).trans g6).updNew nD nF6, nF6, upd_same, ra6.append (.cons r6 .nil), w6.2⟩
  · have e : i = ds.length := by omega
    subst e
    rw [List.drop_length] at w2
    refine .inl ⟨wk.stop _ H2 (g2.ff.trans g2.fh) (Nat.le_refl _), ?_⟩
    exact k D _ _ F2 H2 (g1.trans g2) nF (g1.hh.free nD) eD (.lst ra) w2
theorem blk_ok (N : List Str) (sc : Scope) {scope : Scope} {own : List (Str × Nat)} (h : blkC N sc scope own = true) : BlkOk N sc scope own := blkOk_by h
theorem df_lc (hc : X.calm = true) (hN : X.N.Nodup) (hi : DI K X tg iter wi fi) (ok : BlkOk X.N X.env.scope scope own)
    (hg : ∀ (s : Shared) (H : Hp) (C : Addr) (cl : List (Str × Addr)) (fp : List Addr), DG K (X.blk s H scope (compEnvC scope cl C X.env) fp) tg S g fg)
    (ht : ∀ (s : Shared) (H : Hp) (C : Addr) (cl : List (Str × Addr)) (fp : List Addr), DTs K (X.blk s H scope (compEnvC scope cl C X.env) fp) ifs tt ft)
    (he : ∀ (s : Shared) (H : Hp) (C : Addr) (cl : List (Str × Addr)) (fp : List Addr), DE K (X.blk s H scope (compEnvC scope cl C X.env) fp) elt te fe)
    (hS : ∀ i ∈ S, i ∈ own.map (·.2) := by decide) (hs : ∀ x, foldedSetIterable iter X.env x = pure x := by intro _; rfl) : DF K X (.ListComp elt [⟨tg, iter, ifs, 0⟩] scope pos) (tLc wi g tt te (own.map (·.2))) (wLc fi fg ft fe (own.map (·.2))) := by
  refine ⟨hi.k, pe_lc hc hN hi.p ok (fun s H C cl fp => (hg s H C cl fp).p) (fun s H C cl fp => (ht s H C cl fp).p) (fun s H C cl fp => (he s H C cl fp).p) hs, ?_⟩
  exact lc_sound hi.s (hg ({} : Shared) (fun _ => none) 0 [] []).s (ht ({} : Shared) (fun _ => none) 0 [] []).s (he ({} : Shared) (fun _ => none) 0 [] []).s hS
end
end DL

set_option Elab.async false
set_option linter.all false
set_option maxRecDepth 100000
set_option maxHeartbeats 4000000
namespace DL
open PySem PySem.Spec PyProof.Rows L2

/-! ### statements -/
structure DK where
  nx : GE → Prop
  rt : D → Prop
  bk : GE → Prop := fun _ => False
  ct : GE → Prop := fun _ => False
abbrev WS := GE → DK → Prop
/-- a def's answer: a new object, or any value -/
def RepR (fr : Bool) (K : Fr) (F H HB : Hp) (v : V) (d : D) : Prop :=
  if fr = true then ∃ p o, v = .ref p ∧ HB p = none ∧ F p = none ∧ H p = some o ∧ RepW K F o d else Rep K F v d
structure KOk (fr : Bool) (K : Fr) (B HB : Hp) (κ : DK) (D : Ends) : Prop where
  nx : ∀ F Γ σ H, J K B HB F Γ σ H → κ.nx Γ → D.nx σ H
  rt : ∀ v d F H, Grow B HB F H → RepR fr K F H HB v d → κ.rt d → D.rt v H
  bk : ∀ F Γ σ H, J K B HB F Γ σ H → κ.bk Γ → D.bk σ H
  ct : ∀ F Γ σ H, J K B HB F Γ σ H → κ.ct Γ → D.ct σ H
def SS (fr : Bool) (K : Fr) (t : TS) (f : WS) : Prop := ∀ (B HB F : Hp) (Γ : GE) (σ : L2.St) (H : Hp) (D : Ends) (κ : DK), J K B HB F Γ σ H → f Γ κ → KOk fr K B HB κ D → t D σ H
structure DS (fr : Bool) (K : Fr) (X : Cx) (st : Stmt) (t : TS) (f : WS) : Prop where
  k : X.K = K
  p : PS X st t
  s : SS fr K t f
structure DSs (fr : Bool) (K : Fr) (X : Cx) (sts : List Stmt) (t : TS) (f : WS) : Prop where
  k : X.K = K
  p : PSs X sts t
  s : SS fr K t f
theorem Grow.base {B HB F H B' H1 : Hp} (g1 : Grow B HB B' H1) (g2 : Grow B' HB F H) : Grow B HB F H :=
  ⟨g1.ff.trans g2.ff, g2.hh, g2.fh, fun a h1 h2 => g2.ow a h1 (g1.ow a h1 h2)⟩
section
variable {fr : Bool} {K : Fr} {X : Cx} {st : Stmt} {rest a b : List Stmt} {e : Expr} {t u : TS} {te tb : TE} {tt : TT} {f g : WS} {fe fb : WE} {ft : WT} {pos : Pos}
@[simp] def sNext : WS := fun Γ κ => κ.nx Γ
@[simp] def sSeq (f g : WS) : WS := fun Γ κ => f Γ { κ with nx := fun Γ' => g Γ' κ }
theorem dss_nil (hk : X.K = K := by rfl) : DSs fr K X [] tNext sNext := ⟨hk, pss_nil, fun B HB F Γ σ H D κ j w k => k.nx F Γ σ H j w⟩
theorem dss_cons (h1 : DS fr K X st t f) (h2 : DSs fr K X rest u g) : DSs fr K X (st :: rest) (tSeq t u) (sSeq f g) :=
  ⟨h1.k, pss_cons h1.p h2.p, fun B HB F Γ σ H D κ j w k => h1.s B HB F Γ σ H _ _ j w ⟨fun F Γ σ H j w => h2.s B HB F Γ σ H D κ j w k, k.rt, k.bk, k.ct⟩⟩
theorem dss_one (h1 : DS fr K X st t f) : DSs fr K X [st] t f := ⟨h1.k, pss_one h1.p, h1.s⟩
@[simp] def sBreak : WS := fun Γ κ => κ.bk Γ
@[simp] def sCont : WS := fun Γ κ => κ.ct Γ
theorem ds_pass (hk : X.K = K := by rfl) : DS fr K X (.Pass pos) tNext sNext := ⟨hk, ps_pass, fun B HB F Γ σ H D κ j w k => k.nx F Γ σ H j w⟩
theorem ds_break (hk : X.K = K := by rfl) : DS fr K X (.Break pos) tBreak sBreak := ⟨hk, ps_break, fun B HB F Γ σ H D κ j w k => k.bk F Γ σ H j w⟩
theorem ds_cont (hk : X.K = K := by rfl) : DS fr K X (.Continue pos) tCont sCont := ⟨hk, ps_continue, fun B HB F Γ σ H D κ j w k => k.ct F Γ σ H j w⟩
/-- before a statement: a name's own object is frozen; a name is forgotten -/
@[simp] def sFrz (i : Nat) (f : WS) : WS := fun Γ κ => ∃ d, Γ[i]? = some (some (.own d)) ∧ f (Γ.set i (some (.val d))) κ
theorem ds_frz (i : Nat) (h : DSs fr K X rest t f) : DSs fr K X rest t (sFrz i f) := by
  refine ⟨h.k, h.p, fun B HB F Γ σ H D κ j w k => ?_⟩
  obtain ⟨d, e, w⟩ := w
  obtain ⟨F', j'⟩ := j.freeze e
  exact h.s B HB F' _ σ H D κ j' w k
@[simp] def sDrop (i : Nat) (f : WS) : WS := fun Γ κ => f (Γ.set i none) κ
theorem ds_drop (i : Nat) (h : DSs fr K X rest t f) : DSs fr K X rest t (sDrop i f) := by
  refine ⟨h.k, h.p, fun B HB F Γ σ H D κ j w k => ?_⟩
  exact h.s B HB F _ σ H D κ (j.drop (i := i)) w k
/-- x = e -/
@[simp] def sSet (i : Nat) (fe : WE) : WS := fun Γ κ => fe Γ fun d => κ.nx (Γ.set i (some (.val d)))
@[simp] def sOwn (i : Nat) (fe : WE) : WS := fun Γ κ => fe Γ fun d => κ.nx (Γ.set i (some (.own d)))
theorem set_sound {i : Nat} (he : SE K te fe) : SS fr K (tAsg te (gName i)) (sSet i fe) := fun B HB F Γ σ H D κ j w k =>
  he B HB F Γ σ H _ _ j w fun v d F' H' g r φ => k.nx F' _ _ H' ((j.grow g).set i r) φ
theorem own_sound {i : Nat} (he : SF K te fe) : SS fr K (tAsg te (gName i)) (sOwn i fe) := fun B HB F Γ σ H D κ j w k =>
  he B HB F Γ σ H _ _ j w fun p o d F' H' g n1 n2 eh r φ => k.nx F' _ _ H' ((j.grow g).setOwn i (j.gr.hh.free n2) n1 eh r fun kk d' e1 e2 => by
    obtain ⟨a, o', ea, _, _, q, _⟩ := j.sl kk _ e1
    rw [e2] at ea
    cases ea
    rw [n2] at q
    cases q) φ
theorem ds_set (i : Nat) {x : Str} {p' : Pos} (hN : X.N.Nodup) (he : DE K X e te fe) (hi : X.N[i]? = some x := by rfl) (hx : Loc X.env.scope x := by first | exact Or.inl rfl | exact Or.inr rfl) (hs : swapsWith e (some (.Name x p')) pos.line X.env = pure false := by rfl)
    (hf : X.fn x = true ∨ X.env.scope.names.lookup x = some .local := by first | exact .inl rfl | exact .inr rfl) : DS fr K X (.Assign [.Name x p'] e pos) (tAsg te (gName i)) (sSet i fe) := ⟨he.k, ps_set hN hi hx he.p hs hf, set_sound he.s⟩
theorem ds_own (i : Nat) {x : Str} {p' : Pos} (hN : X.N.Nodup) (he : DF K X e te fe) (hi : X.N[i]? = some x := by rfl) (hx : Loc X.env.scope x := by first | exact Or.inl rfl | exact Or.inr rfl) (hs : swapsWith e (some (.Name x p')) pos.line X.env = pure false := by rfl)
    (hf : X.fn x = true ∨ X.env.scope.names.lookup x = some .local := by first | exact .inl rfl | exact .inr rfl) : DS fr K X (.Assign [.Name x p'] e pos) (tAsg te (gName i)) (sOwn i fe) := ⟨he.k, ps_set hN hi hx he.p hs hf, own_sound he.s⟩
section
variable {elt tg iter : Expr} {ifs : List Expr} {scope : Scope} {own : List (Str × Nat)} {wi : TI} {gt : TG} {tel : TE} {fi : WA} {fg : WG} {fel : WE} {S : List Nat}
theorem lc_ps (i : Nat) {x : Str} {p' p2 : Pos} (hc : X.calm = true) (hN : X.N.Nodup) (hi : DI K X tg iter wi fi) (ok : BlkOk X.N X.env.scope scope own)
    (hg : ∀ (s : Shared) (H : Hp) (C : Addr) (cl : List (Str × Addr)) (fp : List Addr), DG K (X.blk s H scope (compEnvC scope cl C X.env) fp) tg S gt fg)
    (ht : ∀ (s : Shared) (H : Hp) (C : Addr) (cl : List (Str × Addr)) (fp : List Addr), DTs K (X.blk s H scope (compEnvC scope cl C X.env) fp) ifs tt ft)
    (he : ∀ (s : Shared) (H : Hp) (C : Addr) (cl : List (Str × Addr)) (fp : List Addr), DE K (X.blk s H scope (compEnvC scope cl C X.env) fp) elt tel fel)
    (hy : X.N[i]? = some x) (hyl : X.env.scope.names.lookup x = some .local) (hk : X.env.scope.kind = .function) (hl : (p'.line == p2.line) = true)
    (hn : (scope.names.any fun (n, k) => n == x && (k == .local || k == .cell)) = false) (hs : ∀ y, foldedSetIterable iter X.env y = pure y) :
    PS X (.Assign [.Name x p'] (.ListComp elt [⟨tg, iter, ifs, 0⟩] scope p2) pos) (tAsg (tLc wi gt tt tel (own.map (·.2))) (gName i)) :=
  ps_setLc hc hN hy hyl (sw_true hk hyl hl hn) hi.p ok (fun s H C cl fp => (hg s H C cl fp).p) (fun s H C cl fp => (ht s H C cl fp).p) (fun s H C cl fp => (he s H C cl fp).p) hs
theorem ds_setLc (i : Nat) {x : Str} {p' p2 : Pos} (hc : X.calm = true) (hN : X.N.Nodup) (hi : DI K X tg iter wi fi) (ok : BlkOk X.N X.env.scope scope own)
    (hg : ∀ (s : Shared) (H : Hp) (C : Addr) (cl : List (Str × Addr)) (fp : List Addr), DG K (X.blk s H scope (compEnvC scope cl C X.env) fp) tg S gt fg)
    (ht : ∀ (s : Shared) (H : Hp) (C : Addr) (cl : List (Str × Addr)) (fp : List Addr), DTs K (X.blk s H scope (compEnvC scope cl C X.env) fp) ifs tt ft)
    (he : ∀ (s : Shared) (H : Hp) (C : Addr) (cl : List (Str × Addr)) (fp : List Addr), DE K (X.blk s H scope (compEnvC scope cl C X.env) fp) elt tel fel)
    (hy : X.N[i]? = some x := by rfl) (hyl : X.env.scope.names.lookup x = some .local := by rfl) (hk : X.env.scope.kind = .function := by rfl) (hl : (p'.line == p2.line) = true := by rfl)
    (hn : (scope.names.any fun (n, k) => n == x && (k == .local || k == .cell)) = false := by decide +kernel) (hS : ∀ i ∈ S, i ∈ own.map (·.2) := by decide) (hs : ∀ y, foldedSetIterable iter X.env y = pure y := by intro _; rfl) :
    DS fr K X (.Assign [.Name x p'] (.ListComp elt [⟨tg, iter, ifs, 0⟩] scope p2) pos) (tAsg (tLc wi gt tt tel (own.map (·.2))) (gName i)) (sSet i (wLc fi fg ft fel (own.map (·.2)))) :=
  ⟨hi.k, lc_ps i hc hN hi ok hg ht he hy hyl hk hl hn hs, set_sound (DF.toE (X := X) ⟨hi.k, (df_lc (pos := p2) hc hN hi ok hg ht he hS hs).p, (df_lc (pos := p2) hc hN hi ok hg ht he hS hs).s⟩).s⟩
theorem ds_ownLc (i : Nat) {x : Str} {p' p2 : Pos} (hc : X.calm = true) (hN : X.N.Nodup) (hi : DI K X tg iter wi fi) (ok : BlkOk X.N X.env.scope scope own)
    (hg : ∀ (s : Shared) (H : Hp) (C : Addr) (cl : List (Str × Addr)) (fp : List Addr), DG K (X.blk s H scope (compEnvC scope cl C X.env) fp) tg S gt fg)
    (ht : ∀ (s : Shared) (H : Hp) (C : Addr) (cl : List (Str × Addr)) (fp : List Addr), DTs K (X.blk s H scope (compEnvC scope cl C X.env) fp) ifs tt ft)
    (he : ∀ (s : Shared) (H : Hp) (C : Addr) (cl : List (Str × Addr)) (fp : List Addr), DE K (X.blk s H scope (compEnvC scope cl C X.env) fp) elt tel fel)
    (hy : X.N[i]? = some x := by rfl) (hyl : X.env.scope.names.lookup x = some .local := by rfl) (hk : X.env.scope.kind = .function := by rfl) (hl : (p'.line == p2.line) = true := by rfl)
    (hn : (scope.names.any fun (n, k) => n == x && (k == .local || k == .cell)) = false := by decide +kernel) (hS : ∀ i ∈ S, i ∈ own.map (·.2) := by decide) (hs : ∀ y, foldedSetIterable iter X.env y = pure y := by intro _; rfl) :
    DS fr K X (.Assign [.Name x p'] (.ListComp elt [⟨tg, iter, ifs, 0⟩] scope p2) pos) (tAsg (tLc wi gt tt tel (own.map (·.2))) (gName i)) (sOwn i (wLc fi fg ft fel (own.map (·.2)))) :=
  ⟨hi.k, lc_ps i hc hN hi ok hg ht he hy hyl hk hl hn hs, own_sound (df_lc (pos := p2) hc hN hi ok hg ht he hS hs).s⟩
end
/-- targets = e -/
@[simp] def sAsg (fe : WE) (g : WG) : WS := fun Γ κ => fe Γ fun d => g d Γ κ.nx
theorem ds_asg {tg : Expr} {S : List Nat} {gt : TG} {fg : WG} (he : DE K X e te fe) (hg : DG K X tg S gt fg) (hs : swapsWithSole [tg] e pos.line X.env = pure false := by rfl) (hw : swappedStores [tg] e X.env = pure none := by rfl)
    (h1 : (assignEach [tg] X.env).map (·.2) = [assign tg X.env] := by rfl) : DS fr K X (.Assign [tg] e pos) (tAsg te gt) (sAsg fe fg) :=
  ⟨he.k, ps_asg he.p hg.p hs hw h1, fun B HB F Γ σ H D κ j w k => he.s B HB F Γ σ H _ _ j w fun v d F' H' g r φ => hg.s B HB F' Γ σ H' v d _ _ (j.grow g) r φ fun Γ' σ' j' _ φ' => k.nx F' Γ' σ' H' j' φ'⟩
/-- a, b = e1, e2 -/
@[simp] def sPar (i l : Nat) (h : WA) : WS := fun Γ κ => h Γ fun ds => match ds with
  | [d, e] => κ.nx ((Γ.set i (some (.val d))).set l (some (.val e)))
  | _ => False
theorem ds_par (i l : Nat) {x y : Str} {a b : Expr} {ta : TA} {h : WA} {px py pt : Pos} {kt k2 pt2} (hc : X.calm = true) (hN : X.N.Nodup) (ha : DA K X [a, b] ta h) (hi : X.N[i]? = some x := by rfl) (hl : X.N[l]? = some y := by rfl) (hil : i ≠ l := by decide)
    (hx : X.env.scope.names.lookup x = some .local := by rfl) (hy : X.env.scope.names.lookup y = some .local := by rfl)
    (hw : swappedStores [.Tuple [.Name x px, .Name y py] kt pt] (.Tuple [a, b] k2 pt2) X.env = pure (some [x, y]) := by rfl)
    (hs : swapsWithSole [.Tuple [.Name x px, .Name y py] kt pt] (.Tuple [a, b] k2 pt2) pos.line X.env = pure false := by rfl) :
    DS fr K X (.Assign [.Tuple [.Name x px, .Name y py] kt pt] (.Tuple [a, b] k2 pt2) pos) (tPar i l ta) (sPar i l h) := by
  refine ⟨ha.k, ps_par hc hN hi hl hil hx hy ha.p hw hs, fun B HB F Γ σ H D κ j w k => ha.s B HB F Γ σ H _ _ j w fun vs ds F' H' g r φ => ?_⟩
  match ds, φ with
  | [d, e], φ =>
    cases r with
    | cons r1 r2 =>
      cases r2 with
      | cons r2 r3 =>
        cases r3
        exact ⟨_, _, rfl, k.nx F' _ _ H' (((j.grow g).set i r1).set l r2) φ⟩
/-- x op= e -/
@[simp] def sAug (i : Nat) (w : W2) (fe : WE) : WS := fun Γ κ => ∃ d, Γ[i]? = some (some (.val d)) ∧ fe Γ fun e => w d e fun z => κ.nx (Γ.set i (some (.val z)))
theorem ds_aug (i : Nat) {x : Str} {op : Operator} {r : R2} {w : W2} {p' : Pos} (hN : X.N.Nodup) (ho : X.K = K → OpR X (inplaceOp op) r) (hd : DOp2 K r w) (he : DB K X e te fe) (hi : X.N[i]? = some x := by rfl) (hx : Loc X.env.scope x := by first | exact Or.inl rfl | exact Or.inr rfl)
    (hf : X.fn x = true ∨ X.env.scope.names.lookup x = some .local := by first | exact .inl rfl | exact .inr rfl) : DS fr K X (.AugAssign (.Name x p') op e pos) (tAug i te r) (sAug i w fe) := by
  refine ⟨he.k, ps_aug hN hi hx he.p (ho he.k) hf, fun B HB F Γ σ H D κ j w k => ?_⟩
  obtain ⟨d, e1, w⟩ := w
  obtain ⟨v, ev, rv⟩ := j.sl i _ e1
  refine ⟨v, ev, he.s B HB F Γ σ H _ _ j w fun y e F' H' g r φ => ?_⟩
  have j' := j.grow g
  exact hd F' H' v y d e _ _ j'.fh (.inl (rv.mono g.ff)) r φ fun u z F2 H2 g2 r2 φ2 => k.nx F2 _ _ H2 ((j'.grow g2).set i r2) φ2
/-- an expression whose value is dropped -/
@[simp] def sExpr (fe : WE) : WS := fun Γ κ => fe Γ fun _ => κ.nx Γ
theorem ds_expr (he : DE K X e te fe) (hs : swapsWith e none pos.line X.env = pure false := by rfl) : DS fr K X (.Expr e pos) (tDrop te) (sExpr fe) :=
  ⟨he.k, ps_expr he.p hs, fun B HB F Γ σ H D κ j w k => he.s B HB F Γ σ H _ _ j w fun v d F' H' g r φ => k.nx F' Γ σ H' (j.grow g) φ⟩
/-- return -/
@[simp] def sRet (fe : WE) : WS := fun Γ κ => fe Γ κ.rt
theorem ds_ret (he : DE K X e te fe) : DS false K X (.Return (some e) pos) (tRet te) (sRet fe) :=
  ⟨he.k, ps_ret he.p, fun B HB F Γ σ H D κ j w k => he.s B HB F Γ σ H _ _ j w fun v d F' H' g r φ => k.rt v d F' H' (j.grow g).gr r φ⟩
theorem ds_retN (hk : X.K = K := by rfl) : DS false K X (.Return none pos) tRetN (fun _ κ => κ.rt .non) :=
  ⟨hk, ps_retN, fun B HB F Γ σ H D κ j w k => k.rt .non .non F H j.gr .non w⟩
/-- return of a name -/
@[simp] def sRetV (i : Nat) : WS := fun Γ κ => (∃ d, Γ[i]? = some (some (.val d)) ∧ κ.rt d) ∨ ∃ d, Γ[i]? = some (some (.own d)) ∧ κ.rt d
theorem ds_retV (i : Nat) {x : Str} {p' : Pos} (hk : X.K = K := by rfl) (hN : X.N[i]? = some x := by rfl) (hv : Vis X.env.scope x := by first | exact Or.inl rfl | exact Or.inr (Or.inl rfl) | exact Or.inr (Or.inr rfl)) (hd : (x == ("__debug__" : Str)) = false := by decide)
    (hcd : (x == ("__classdict__" : Str)) = false := by decide) : DS false K X (.Return (some (.Name x p')) pos) (tRet (tVar i)) (sRetV i) := by
  refine ⟨hk, ps_ret (pe_var hN hv hd hcd), fun B HB F Γ σ H D κ j w k => ?_⟩
  rcases w with ⟨d, e, w⟩ | ⟨d, e, w⟩
  · obtain ⟨v, ev, r⟩ := j.sl i _ e
    exact ⟨v, ev, k.rt v d F H j.gr r w⟩
  · obtain ⟨F', j'⟩ := j.freeze e
    have hi : i < Γ.length := (List.getElem?_eq_some_iff.mp e).1
    obtain ⟨v, ev, r⟩ := j'.sl i (.val d) (by rw [List.getElem?_set_self hi])
    exact ⟨v, ev, k.rt v d F' H j'.gr r w⟩
@[simp] def sRetO (i : Nat) : WS := fun Γ κ => ∃ d, Γ[i]? = some (some (.own d)) ∧ κ.rt d
theorem ds_retO (i : Nat) {x : Str} {p' : Pos} (hk : X.K = K := by rfl) (hN : X.N[i]? = some x := by rfl) (hv : Vis X.env.scope x := by first | exact Or.inl rfl | exact Or.inr (Or.inl rfl) | exact Or.inr (Or.inr rfl)) (hd : (x == ("__debug__" : Str)) = false := by decide)
    (hcd : (x == ("__classdict__" : Str)) = false := by decide) : DS true K X (.Return (some (.Name x p')) pos) (tRet (tVar i)) (sRetO i) := by
  refine ⟨hk, ps_ret (pe_var hN hv hd hcd), fun B HB F Γ σ H D κ j w k => ?_⟩
  obtain ⟨d, e, w⟩ := w
  obtain ⟨a, o, ev, n1, n2, q, r⟩ := j.sl i _ e
  exact ⟨_, ev, k.rt _ d F H j.gr ⟨a, o, rfl, n1, n2, q, r⟩ w⟩
theorem ds_retF (he : DF K X e te fe) : DS true K X (.Return (some e) pos) (tRet te) (sRet fe) :=
  ⟨he.k, ps_ret he.p, fun B HB F Γ σ H D κ j w k => he.s B HB F Γ σ H _ _ j w fun p o d F' H' g n1 n2 eh r φ => k.rt _ d F' H' (j.grow g).gr (by show RepR true _ _ _ _ _ _; exact ⟨p, o, rfl, j.gr.hh.free n2, n1, eh, r⟩) φ⟩
/-- if -/
@[simp] def sIf (c : WT) (f g : WS) : WS := fun Γ κ => c Γ fun b => if b = true then f Γ κ else g Γ κ
theorem ds_if {c : Expr} (hc : DT K X c tt ft) (ha : DSs fr K X a t f) (hb : DSs fr K X b u g) : DS fr K X (.If c a b pos) (tIfS tt t u) (sIf ft f g) := by
  refine ⟨hc.k, ps_if hc.p ha.p hb.p, fun B HB F Γ σ H D κ j w k => hc.s B HB F Γ σ H _ _ j w fun c F' H' g φ => ?_⟩
  cases c with
  | true => exact ha.s B HB F' Γ σ H' D κ (j.grow g) φ k
  | false => exact hb.s B HB F' Γ σ H' D κ (j.grow g) φ k
/-- for -/
def forGo (g : WG) (f : WS) (κ : DK) : List D → GE → Prop
  | [], Γ => κ.nx Γ
  | d :: ds, Γ => g d Γ fun Γ1 => f Γ1 { κ with nx := forGo g f κ ds, ct := forGo g f κ ds, bk := κ.nx }
@[simp] def sFor (fi : WA) (g : WG) (f : WS) : WS := fun Γ κ => fi Γ fun ds => forGo g f κ ds Γ
theorem KOk.base {B HB B' H1 : Hp} {κ : DK} {D : Ends} (k : KOk fr K B HB κ D) (g : Grow B HB B' H1) : KOk fr K B' HB κ D :=
  ⟨fun F Γ σ H j => k.nx F Γ σ H (j.unbase g), fun v d F H gg => k.rt v d F H (g.base gg), fun F Γ σ H j => k.bk F Γ σ H (j.unbase g), fun F Γ σ H j => k.ct F Γ σ H (j.unbase g)⟩
theorem ds_for {tg iter : Expr} {S : List Nat} {wi : TI} {gt : TG} {fi : WA} {fg : WG} (hp : PassesOwn (model X.prog X.w) X.A X.env X.xe) (hc : X.calm = true) (hi : DI K X tg iter wi fi) (hg : DG K X tg S gt fg) (hb : DSs fr K X a t f)
    (hs : ∀ x, foldedSetIterable iter X.env x = pure x := by intro _; rfl) : DS fr K X (.For tg iter a [] pos) (tFor wi gt t) (sFor fi fg f) := by
  refine ⟨hi.k, ps_for hp hc hi.p hg.p hb.p hs, fun B HB F Γ σ H D κ j w k => hi.s B HB F Γ σ H _ _ j w fun Jt ds F1 H1 g1 wk φ => ?_⟩
  have j1 := j.grow g1
  have kb := k.base j1.gr
  refine ⟨fun i m σ H => ∃ F2 Γ2, m = ds.length - i ∧ i ≤ ds.length ∧ J K F1 HB F2 Γ2 σ H ∧ forGo fg f κ (ds.drop i) Γ2, ⟨ds.length, F1, Γ, rfl, Nat.zero_le _, j1.rebase, φ⟩, ?_⟩
  rintro i m σ2 H2 ⟨F2, Γ2, rfl, hi2, j2, w2⟩
  by_cases hlt : i < ds.length
  · refine .inr ⟨wk.go i H2 (j2.gr.ff.trans j2.fh) hlt, fun σ' H' => ∃ F3 Γ3, J K F1 HB F3 Γ3 σ' H' ∧ forGo fg f κ (ds.drop (i + 1)) Γ3, fun σ' H' ⟨F3, Γ3, z1, z2⟩ => ⟨ds.length - (i + 1), by omega, F3, Γ3, rfl, hlt, z1, z2⟩, fun x H' y => ?_⟩
    obtain ⟨d, F3, ed, g3, r3⟩ := wk.yld i F2 H2 x H' j2.gr.ff j2.fh hlt y
    have edrop : ds.drop i = d :: ds.drop (i + 1) := by
      obtain ⟨h1, h2⟩ := List.getElem?_eq_some_iff.mp ed
      rw [← h2]; exact List.drop_eq_getElem_cons h1
    rw [edrop] at w2
    refine hg.s F1 HB F3 Γ2 σ2 H' x d _ _ (j2.grow g3) r3 w2 fun Γ4 σ4 j4 _ w4 => ?_
    exact hb.s F1 HB F3 Γ4 σ4 H' _ _ j4 w4 ⟨fun F Γ σ H j w => ⟨F, Γ, j, w⟩, kb.rt, kb.nx, fun F Γ σ H j w => ⟨F, Γ, j, w⟩⟩
  · have e : i = ds.length := by omega
    subst e
    rw [List.drop_length] at w2
    exact .inl ⟨wk.stop _ H2 (j2.gr.ff.trans j2.fh) (Nat.le_refl _), kb.nx F2 Γ2 σ2 H2 j2 w2⟩
/-- while -/
def whGo (c : WT) (f : WS) (κ : DK) : Nat → GE → Prop
  | 0, _ => False
  | n + 1, Γ => c Γ fun b => if b = true then f Γ { κ with nx := whGo c f κ n, ct := whGo c f κ n, bk := κ.nx } else κ.nx Γ
def sWhile (c : WT) (f : WS) : WS := fun Γ κ => ∃ n, whGo c f κ n Γ
theorem ds_while {c : Expr} (hp : PassesOwn (model X.prog X.w) X.A X.env X.xe) (hc : DT K X c tt ft) (hb : DSs fr K X a t f) : DS fr K X (.While c a [] pos) (tWhile tt t) (sWhile ft f) := by
  refine ⟨hc.k, ps_while hp hc.p hb.p, fun B HB F Γ σ H D κ j w k => ?_⟩
  obtain ⟨n, w⟩ := w
  refine ⟨fun m σ H => ∃ F Γ, J K B HB F Γ σ H ∧ whGo ft f κ m Γ, ⟨n, F, Γ, j, w⟩, ?_⟩
  rintro m σ2 H2 ⟨F2, Γ2, j2, w2⟩
  cases m with
  | zero => exact w2.elim
  | succ m =>
    refine hc.s B HB F2 Γ2 σ2 H2 _ _ j2 w2 fun b F3 H3 g3 w3 => ?_
    cases b with
    | false => exact k.nx F3 Γ2 σ2 H3 (j2.grow g3) w3
    | true =>
      refine ⟨fun σ' H' => ∃ F Γ, J K B HB F Γ σ' H' ∧ whGo ft f κ m Γ, fun σ' H' z => ⟨m, Nat.lt_succ_self _, z⟩, ?_⟩
      exact hb.s B HB F3 Γ2 σ2 H3 _ _ (j2.grow g3) w3 ⟨fun F Γ σ H j w => ⟨F, Γ, j, w⟩, k.rt, k.nx, fun F Γ σ H j w => ⟨F, Γ, j, w⟩⟩
/-- xs[e] = v, xs a name's own list -/
@[simp] def sPut (i : Nat) (fb fe : WE) : WS := fun Γ κ => ∃ xs, Γ[i]? = some (some (.own (.lst xs))) ∧ fe Γ fun z => fb Γ fun kd => ∃ kk jj, kd = .int kk ∧ ixN xs.length kk = some jj ∧ κ.nx (Γ.set i (some (.own (.lst (xs.set jj z)))))
theorem ownL {B HB F H : Hp} {Γ : GE} {σ : L2.St} {i : Nat} {xs : List D} (j : J K B HB F Γ σ H) (e : Γ[i]? = some (some (.own (.lst xs)))) : ∃ a vs, σ[i]? = some (some (.ref a)) ∧ HB a = none ∧ F a = none ∧ H a = some (.lst vs) ∧ RepL K F vs xs := by
  obtain ⟨a, o, ea, n1, n2, q, r⟩ := j.sl i _ e
  cases r with
  | lst r => exact ⟨a, _, ea, n1, n2, q, r⟩
theorem ds_put (i : Nat) {x : Str} {p1 p2 : Pos} {ei : Expr} {ti : TE} (hv : DE K X e te fe) (hi : DE K X ei ti fb) (hN : X.N[i]? = some x := by rfl) (hvis : Vis X.env.scope x := by first | exact Or.inl rfl | exact Or.inr (Or.inl rfl) | exact Or.inr (Or.inr rfl)) (hd : (x == ("__debug__" : Str)) = false := by decide)
    (hcd : (x == ("__classdict__" : Str)) = false := by decide) (hs : swapsWithSole [.Subscript (.Name x p1) ei p2] e pos.line X.env = pure false := by rfl) (hw : swappedStores [.Subscript (.Name x p1) ei p2] e X.env = pure none := by rfl)
    (h1 : (assignEach [.Subscript (.Name x p1) ei p2] X.env).map (·.2) = [assign (.Subscript (.Name x p1) ei p2) X.env] := by rfl)
    (ha : ∀ v, assign (.Subscript (.Name x p1) ei p2) X.env v = (do
      let ov ← holding [v] (eval (.Name x p1) X.env)
      let iv ← holding [v, ov] (eval ei X.env)
      standAt p2
      holding [v, ov, iv] (setItem ov iv v)
      release [v, ov, iv] []) := by intro _; rfl) :
    DS fr K X (.Assign [.Subscript (.Name x p1) ei p2] e pos) (tAsg te (gSub (tVar i) ti rSetL)) (sPut i fb fe) := by
  refine ⟨hv.k, ps_asg hv.p (pg_sub (pe_var hN hvis hd hcd) hi.p set_list ha) hs hw h1, fun B HB F Γ σ H D κ j w k => ?_⟩
  obtain ⟨xs, e1, w⟩ := w
  obtain ⟨a, vs, ea, m1, m2, q, r⟩ := ownL j e1
  refine hv.s B HB F Γ σ H _ _ j w fun z zd F1 H1 g1 r1 w1 => ?_
  refine ⟨_, ea, hi.s B HB F1 Γ σ H1 _ _ (j.grow g1) w1 fun kv kd F2 H2 g2 r2 w2 => ?_⟩
  obtain ⟨kk, jj, rfl, hj, w2⟩ := w2
  rw [r2.int_inv]
  have j2 := (j.grow g1).grow g2
  obtain ⟨a', vs', ea', _, _, q2, rl⟩ := ownL j2 e1
  rw [ea] at ea'
  cases ea'
  refine ⟨a, vs', kk, jj, rfl, rfl, q2, by rw [rl.length]; exact hj, ?_⟩
  exact k.nx F2 _ σ _ (j2.write e1 ea (.lst (rl.set (r1.mono g2.ff) jj))) w2
/-- xs.append(v) -/
@[simp] def sApp (i : Nat) (fe : WE) : WS := fun Γ κ => ∃ xs, Γ[i]? = some (some (.own (.lst xs))) ∧ fe Γ fun z => xs.length < sizeLine ∧ κ.nx (Γ.set i (some (.own (.lst (xs ++ [z])))))
theorem app_sound {i : Nat} (he : SE K te fe) : SS fr K (tDrop (tBM K "list" rAppend (tVar i) (tCons te tNil))) (sApp i fe) := by
  intro B HB F Γ σ H D κ j w k
  obtain ⟨xs, e1, w⟩ := w
  obtain ⟨a, vs, ea, m1, m2, q, r⟩ := ownL j e1
  refine ⟨_, ea, .inl ⟨rfl, _, .of q⟩, he B HB F Γ σ H _ _ j w fun z zd F1 H1 g1 r1 w1 => ?_⟩
  have j1 := j.grow g1
  obtain ⟨a', vs', ea', _, _, q2, rl⟩ := ownL j1 e1
  rw [ea] at ea'
  cases ea'
  refine ⟨a, vs', z, rfl, rfl, q2, by rw [rl.length]; exact w1.1, ?_⟩
  exact k.nx F1 _ σ _ (j1.write e1 ea (.lst (rl.append (.cons r1 .nil)))) w1.2
/-! ### calls of defs -/
def spD (fr : Bool) (K : Fr) (S : List D → D → Prop) : Sp := fun vs H Q _ => ∃ F ds d, Same F H ∧ RepL K F vs ds ∧ S ds d ∧ ∀ v F' H', Grow F H F' H' → RepR fr K F' H' H v d → Q v H'
@[simp] def wFn (S : List D → D → Prop) (h : WA) : WE := fun Γ Φ => h Γ fun ds => ∃ d, S ds d ∧ Φ d
def scalD : D → Prop
  | .non => True | .bl _ => True | .int _ => True | .str _ => True
  | _ => False
@[simp] def wFnS (S : List D → D → Prop) (h : WA) : WE := fun Γ Φ => h Γ fun ds => ∃ d, S ds d ∧ scalD d ∧ Φ d
theorem Rep.scal {K : Fr} {F F' : Hp} {v : V} {d : D} (r : Rep K F v d) (h : scalD d) : Rep K F' v d := by
  cases d with
  | non => rw [r.non_inv]; exact .non
  | bl b => rw [r.bl_inv]; exact .bl b
  | int b => rw [r.int_inv]; exact .int b
  | str b => rw [r.str_inv]; exact .str b
  | _ => exact h.elim
section
variable {es : List Expr} {th : TA} {h : WA} {k : Nat} {fa : Addr} {fd : FuncData} {ps : List Str} {S : List D → D → Prop} {x : Str} {p : Pos}
theorem de_call (Fo : FnOk X.prog X.w K X.mg X.base CX0 k fa fd ps (spD false K S)) (hr : Room k X.A) (hm : X.mg x = some (.ref fa)) (hk : PySem.W.keepIn K (.ref fa) = true) (hb : Binds K fd ps [])
    (ha : DA K X (e :: es) th h) (hg : Gl X x := by rfl) (hdb : (x == ("__debug__" : Str)) = false := by decide) (he : starEach (e :: es) X.env = (false, eval e X.env) :: starEach es X.env := by rfl) (hpl : (backTo pos (starEach es X.env)).any (·.1) = false := by rfl) :
    DE K X (.Call (.Name x p) (e :: es) [] pos) (tCall (spD false K S) [] E0 th) (wFn S h) := by
  obtain rfl := ha.k
  refine ⟨rfl, pe_call Fo hr hg hm hk hb .nil pass0 ha.p hdb he hpl, fun B HB F Γ σ H Q Φ j w k => ha.s B HB F Γ σ H _ _ j w fun vs ds F' H' g r φ => ?_⟩
  obtain ⟨d, hS, φ⟩ := φ
  exact ⟨F', ds, d, g.fh, by simpa using r, hS, fun v F2 H2 g2 r2 => k v d F2 H2 (g.trans g2) r2 φ⟩
theorem de_callS (Fo : FnOk X.prog X.w K X.mg X.base CX0 k fa fd ps (spD false K S)) (hr : Room k X.A) (hm : X.mg x = some (.ref fa)) (hk : PySem.W.keepIn K (.ref fa) = true) (hb : Binds K fd ps [])
    (ha : DAB K X (e :: es) th h) (hg : Gl X x := by rfl) (hdb : (x == ("__debug__" : Str)) = false := by decide) (he : starEach (e :: es) X.env = (false, eval e X.env) :: starEach es X.env := by rfl) (hpl : (backTo pos (starEach es X.env)).any (·.1) = false := by rfl) :
    DE K X (.Call (.Name x p) (e :: es) [] pos) (tCall (spD false K S) [] E0 th) (wFnS S h) := by
  obtain rfl := ha.k
  refine ⟨rfl, pe_call Fo hr hg hm hk hb .nil pass0 ha.p hdb he hpl, fun B HB F Γ σ H Q Φ j w k => ha.s B HB F Γ σ H _ _ j w fun vs ds F' H' g r φ => ?_⟩
  obtain ⟨d, hS, hsc, φ⟩ := φ
  refine ⟨H', ds, d, Same.refl _, by simpa using r.repH g.fh, hS, fun v F2 H2 g2 r2 => ?_⟩
  exact k v d F' H2 ⟨g.ff, g.hh.trans g2.hh, g.fh.trans g2.hh, g.ow⟩ (Rep.scal r2 hsc) φ
theorem df_call (Fo : FnOk X.prog X.w K X.mg X.base CX0 k fa fd ps (spD true K S)) (hr : Room k X.A) (hm : X.mg x = some (.ref fa)) (hk : PySem.W.keepIn K (.ref fa) = true) (hb : Binds K fd ps [])
    (ha : DA K X (e :: es) th h) (hg : Gl X x := by rfl) (hdb : (x == ("__debug__" : Str)) = false := by decide) (he : starEach (e :: es) X.env = (false, eval e X.env) :: starEach es X.env := by rfl) (hpl : (backTo pos (starEach es X.env)).any (·.1) = false := by rfl) :
    DF K X (.Call (.Name x p) (e :: es) [] pos) (tCall (spD true K S) [] E0 th) (wFn S h) := by
  obtain rfl := ha.k
  refine ⟨rfl, pe_call Fo hr hg hm hk hb .nil pass0 ha.p hdb he hpl, fun B HB F Γ σ H Q Φ j w k => ha.s B HB F Γ σ H _ _ j w fun vs ds F' H' g r φ => ?_⟩
  obtain ⟨d, hS, φ⟩ := φ
  refine ⟨F', ds, d, g.fh, by simpa using r, hS, fun v F2 H2 g2 r2 => ?_⟩
  obtain ⟨p, o, rfl, n1, n2, eh, r2⟩ := r2
  exact k p o d F2 H2 (g.trans g2) n2 (g.hh.free n1) eh r2 φ
end
end

/-! ### a def by its body -/
def startG (n : Nat) (ds : List D) : GE := ds.map (fun d => some (.val d)) ++ List.replicate (n - ds.length) none
theorem startG_get {K : Fr} {F : Hp} : ∀ {vs : List V} {ds : List D} {n m : Nat} {i : Nat} {s : Sl}, RepL K F vs ds → (ds.map (fun d => some (Sl.val d)) ++ List.replicate n none)[i]? = some (some s) →
    ∃ v d, s = .val d ∧ (vs.map some ++ List.replicate m none)[i]? = some (some v) ∧ Rep K F v d
  | _, _, n, m, i, s, .nil, h => by
    simp only [List.map_nil, List.nil_append] at h
    rw [List.getElem?_replicate] at h
    split at h <;> cases h
  | _, _, n, m, 0, s, .cons a b, h => by
    simp at h
    exact ⟨_, _, h.symm, by simp, a⟩
  | _, _, n, m, i + 1, s, .cons a b, h => by
    obtain ⟨v, d, h1, h2, h3⟩ := startG_get (n := n) (m := m) (i := i) b (by simpa using h)
    exact ⟨v, d, h1, by simpa using h2, h3⟩
theorem J.start {K : Fr} {F H : Hp} {N : List Str} {vs : List V} {ds : List D} (s : Same F H) (r : RepL K F vs ds) : J K F H F (startG N.length ds) (L2.start N vs) H := by
  have hval : ∀ (i : Nat) (s : Sl), (startG N.length ds)[i]? = some (some s) → ∃ v d, s = .val d ∧ (L2.start N vs)[i]? = some (some v) ∧ Rep K F v d := fun i s e => startG_get r e
  refine ⟨.refl s, ?_, fun i s e => ?_, fun i j d d' a _ e1 => ?_⟩
  · unfold startG L2.start
    rw [List.length_append, List.length_append, List.length_map, List.length_map, List.length_replicate, List.length_replicate, r.length]
  · obtain ⟨v, d, rfl, h2, h3⟩ := hval i s e
    exact ⟨v, h2, h3⟩
  · obtain ⟨v, d, h, _⟩ := hval i _ e1
    cases h
section
variable {P : Program} {w : World} {K : Fr} {mg : Str → Option Value} {base : Heap}
theorem fnD {x qual : Str} {st : Stmt} {fa : Addr} {fd : FuncData} {N ps : List Str} {k : Nat} {fr : Bool} {S : List D → D → Prop} {f : WS} (Fn : Fun K x qual st fa fd) (sc : FnScope N ps (defScope st)) (hl : ∀ ds d, S ds d → ds.length = ps.length)
    (hf : ∀ ds d, S ds d → f (startG N.length ds) { nx := fun _ => fr = false ∧ d = .non, rt := fun z => z = d })
    (body : ∀ (cdv : Value) (A : Around) (outer : List PySem.Env) (s : Shared) (H : Hp) (E : XK), Room k (A.deeper (envOfC qual (defScope st) s.heap.objs.size fa cdv)) →
      ∃ t, DSs fr K (cxOf CX0 P w K mg base N qual (defScope st) fa cdv A outer s H E).nox (defBody st) t f) : FnOk P w K mg base CX0 (k + 1) fa fd ps (spD fr K S) := by
  refine Fn.ok sc (fun vs H Q E h => ?_) fun cdv A outer s H vs Q E hr h => ?_
  · obtain ⟨F, ds, d, _, r, hS, _⟩ := h
    rw [r.length]; exact hl ds d hS
  · obtain ⟨F, ds, d, sm, r, hS, q⟩ := h
    obtain ⟨t, b⟩ := body cdv A outer s H E hr
    refine ⟨t, b.p, b.s F H F _ _ H _ _ (J.start sm r) (hf ds d hS) ⟨fun F' Γ σ H' j z => ?_, fun v z F' H' g rr e => ?_, fun _ _ _ _ _ z => z.elim, fun _ _ _ _ _ z => z.elim⟩⟩
    · obtain ⟨e1, e2⟩ := z
      subst e1 e2
      exact q .non F' H' j.gr .non
    · subst e
      exact q v F' H' g rr
end
end DL

set_option Elab.async false
set_option linter.all false
set_option maxRecDepth 100000
set_option maxHeartbeats 4000000
namespace DL
open PySem PySem.Spec PyProof.Rows L2

section
variable {K : Fr} {F H : Hp}
/-- scalar answers -/
theorem k_same {Q : VK} {Φ : D → Prop} {v : V} {z : D} (s : Same F H) (k : ∀ v z F' H', Grow F H F' H' → Rep K F' v z → Φ z → Q v H') (r : Rep K F v z) (φ : Φ z) : Q v H := k v z F H (.refl s) r φ
theorem k_new {Q : VK} {Φ : D → Prop} {o : HO} {z : D} (s : Same F H) (k : ∀ v z F' H', Grow F H F' H' → Rep K F' v z → Φ z → Q v H') (r : RepO K F o z) (φ : Φ z) : ∀ p, H p = none → Q (.ref p) (upd H p o) := fun p n => by
  have g := Grow.new (p := p) (o := o) s n
  exact k _ z _ _ g (.ob upd_same (r.mono g.ff)) φ
theorem k_newF {Q : VK} {Φ : D → Prop} {o : HO} {z : D} (s : Same F H) (k : ∀ p o z F' H', Grow F H F' H' → F' p = none → H p = none → H' p = some o → RepW K F' o z → Φ z → Q (.ref p) H') (r : RepW K F o z) (φ : Φ z) : ∀ p, H p = none → Q (.ref p) (upd H p o) :=
  fun p n => k p o z F _ (.newH s n) (s.free n) n upd_same r φ
end

/-! ### + -/
@[simp] def wAdd : W2
  | .int i, .int j, Φ => Φ (.int (i + j))
  | .int i, .bl b, Φ => Φ (.int (i + b2i b))
  | .lst xs, .lst ys, Φ => xs.length + ys.length ≤ sizeLine ∧ Φ (.lst (xs ++ ys))
  | .tup xs, .tup ys, Φ => xs.length + ys.length ≤ sizeLine ∧ Φ (.tup (xs ++ ys))
  | .str x, .str y, Φ => x.length + y.length ≤ sizeLine ∧ Φ (.str (x ++ y))
  | _, _, _ => False
def rAddA (K : Fr) : R2 := fun x y H Q => rI0 (fun i j => .int (i + j)) x y H Q ∨ rCat x y H Q ∨ rCatA K x y H Q ∨ (∃ i j, x = .str i ∧ y = .str j ∧ i.length + j.length ≤ sizeLine ∧ Q (.str (i ++ j)) H) ∨ (∃ i k, x = .int i ∧ y = .bl k ∧ Q (.int (i + b2i k)) H)
theorem o_add {K : Fr} {X : Cx} (hk : X.K = K) : OpR X (binaryOp .Add) (rAddA K) := by
  cases hk
  exact op_add.or (op_cat.or (op_catA.or (op_add_str.or op_add_ib)))
theorem d_add {K : Fr} : DOp2 K (rAddA K) wAdd := by
  intro F H x y d e Q Φ s rx ry w k
  cases d with
  | int i =>
    cases e with
    | int j => rw [rx.int, ry.int]; exact .inl ⟨i, j, rfl, rfl, k_same s k (.int _) w⟩
    | bl b => rw [rx.int, ry.bl]; exact .inr (.inr (.inr (.inr ⟨i, b, rfl, rfl, k_same s k (.int _) w⟩)))
    | _ => exact w.elim
  | lst xs =>
    cases e with
    | lst ys =>
      obtain ⟨a, vs, rfl, ea, ra⟩ := rx.lst s
      obtain ⟨b, ws, rfl, eb, rb⟩ := ry.lst s
      exact .inr (.inl ⟨a, b, vs, ws, rfl, rfl, ea, eb, by rw [ra.length, rb.length]; exact w.1, k_new s k (.lst (ra.append rb)) w.2⟩)
    | _ => exact w.elim
  | tup xs =>
    cases e with
    | tup ys =>
      obtain ⟨a, vs, rfl, ea, ra⟩ := rx.tup s
      obtain ⟨b, ws, rfl, eb, rb⟩ := ry.tup s
      refine .inr (.inr (.inl ⟨a, b, vs, ws, rfl, rfl, .of ea, .of eb, by rw [ra.length, rb.length]; exact w.1, fun e => ?_, fun _ e => ?_, fun _ _ => k_new s k (.tup (ra.append rb)) w.2⟩))
      · subst e
        cases ra
        rcases ry with ry | ⟨_, _, _, _, _, ry⟩
        · exact k_same s k ry w.2
        · cases ry
      · subst e
        cases rb
        have w' : Φ (.tup xs) := by have := w.2; rwa [List.append_nil] at this
        rcases rx with rx | ⟨_, _, _, _, _, rx⟩
        · exact k_same s k rx w'
        · cases rx
    | _ => exact w.elim
  | str i =>
    cases e with
    | str j => rw [rx.str, ry.str]; exact .inr (.inr (.inr (.inl ⟨i, j, rfl, rfl, w.1, k_same s k (.str _) w.2⟩)))
    | _ => exact w.elim
  | _ => exact w.elim
@[simp] def wCat : W2
  | .lst xs, .lst ys, Φ => xs.length + ys.length ≤ sizeLine ∧ Φ (.lst (xs ++ ys))
  | _, _, _ => False
theorem f_cat {K : Fr} : DFp2 K rCat wCat := by
  intro F H x y d e Q Φ s rx ry w k
  cases d with
  | lst xs =>
    cases e with
    | lst ys =>
      obtain ⟨a, vs, rfl, ea, ra⟩ := rx.lst s
      obtain ⟨b, ws, rfl, eb, rb⟩ := ry.lst s
      exact ⟨a, b, vs, ws, rfl, rfl, ea, eb, by rw [ra.length, rb.length]; exact w.1, k_newF s k (.lst (ra.append rb)) w.2⟩
    | _ => exact w.elim
  | _ => exact w.elim
/-! ### ints -/
@[simp] def wII (C : Int → Int → Prop) (g : Int → Int → D) : W2
  | .int i, .int j, Φ => C i j ∧ Φ (g i j)
  | _, _, _ => False
theorem d_ii {K : Fr} {C C' : Int → Int → Prop} {g : Int → Int → V} {g' : Int → Int → D} (hc : ∀ i j, C' i j → C i j) (hg : ∀ F i j, Rep K F (g i j) (g' i j)) : DOp2 K (rI C g) (wII C' g') := by
  intro F H x y d e Q Φ s rx ry w k
  cases d with
  | int i =>
    cases e with
    | int j => rw [rx.int, ry.int]; exact ⟨i, j, rfl, rfl, hc _ _ w.1, k_same s k (hg F i j) w.2⟩
    | _ => exact w.elim
  | _ => exact w.elim
theorem d_ii0 {K : Fr} {g : Int → Int → V} {g' : Int → Int → D} (hg : ∀ F i j, Rep K F (g i j) (g' i j)) : DOp2 K (rI0 g) (wII (fun _ _ => True) g') := by
  intro F H x y d e Q Φ s rx ry w k
  cases d with
  | int i =>
    cases e with
    | int j => rw [rx.int, ry.int]; exact ⟨i, j, rfl, rfl, k_same s k (hg F i j) w.2⟩
    | _ => exact w.elim
  | _ => exact w.elim
@[simp] def wSub : W2 := wII (fun _ _ => True) fun i j => .int (i - j)
theorem d_sub {K : Fr} : DOp2 K (rI0 fun i j => .int (i - j)) wSub := d_ii0 fun _ _ _ => .int _
/-- products: one factor small, or both below 2 ^ 250 -/
def mulOk (i j : Int) : Prop := CMul i j ∨ (i.natAbs < 2 ^ 250 ∧ j.natAbs < 2 ^ 250)
@[simp] def wMul : W2
  | .int i, .int j, Φ => mulOk i j ∧ Φ (.int (i * j))
  | .lst xs, .int k, Φ => (-(2 ^ 63) ≤ k ∧ k < 2 ^ 63 ∧ xs.length * k.toNat ≤ sizeLine) ∧ Φ (.lst (List.replicate k.toNat xs).flatten)
  | _, _, _ => False
def rMulA : R2 := fun x y H Q => rI CMul (fun i j => .int (i * j)) x y H Q ∨ rI CMulW (fun i j => .int (i * j)) x y H Q ∨ rRep x y H Q
theorem o_mul {K : Fr} {X : Cx} (hk : X.K = K) : OpR X (binaryOp .Mult) rMulA := op_mul.or (op_mulW.or op_rep)
theorem RepL.rep {K : Fr} {F : Hp} {vs : List V} {ds : List D} (r : RepL K F vs ds) : ∀ k : Nat, RepL K F (List.replicate k vs).flatten (List.replicate k ds).flatten
  | 0 => .nil
  | k + 1 => by rw [List.replicate_succ, List.replicate_succ, List.flatten_cons, List.flatten_cons]; exact r.append (r.rep k)
theorem d_mul {K : Fr} : DOp2 K rMulA wMul := by
  intro F H x y d e Q Φ s rx ry w k
  cases d with
  | int i =>
    cases e with
    | int j =>
      rw [rx.int, ry.int]
      rcases w with ⟨w1 | w1, w2⟩
      · exact .inl ⟨i, j, rfl, rfl, w1, k_same s k (.int _) w2⟩
      · exact .inr (.inl ⟨i, j, rfl, rfl, wide_mul w1.1 w1.2 (by decide) (by decide) (by decide), k_same s k (.int _) w2⟩)
    | _ => exact w.elim
  | lst xs =>
    cases e with
    | int j =>
      obtain ⟨a, vs, rfl, ea, ra⟩ := rx.lst s
      rw [ry.int]
      exact .inr (.inr ⟨a, j, vs, rfl, rfl, ea, w.1.1, w.1.2.1, by rw [ra.length]; exact w.1.2.2, k_new s k (.lst (ra.rep _)) w.2⟩)
    | _ => exact w.elim
  | _ => exact w.elim
@[simp] def wRep : W2
  | .lst xs, .int k, Φ => (-(2 ^ 63) ≤ k ∧ k < 2 ^ 63 ∧ xs.length * k.toNat ≤ sizeLine) ∧ Φ (.lst (List.replicate k.toNat xs).flatten)
  | _, _, _ => False
theorem f_rep {K : Fr} : DFp2 K rRep wRep := by
  intro F H x y d e Q Φ s rx ry w k
  cases d with
  | lst xs =>
    cases e with
    | int j =>
      obtain ⟨a, vs, rfl, ea, ra⟩ := rx.lst s
      rw [ry.int]
      exact ⟨a, j, vs, rfl, rfl, ea, w.1.1, w.1.2.1, by rw [ra.length]; exact w.1.2.2, k_newF s k (.lst (ra.rep _)) w.2⟩
    | _ => exact w.elim
  | _ => exact w.elim
def divOk (_ j : Int) : Prop := 0 < j ∧ j < 2 ^ 250
@[simp] def wDiv : W2 := wII divOk fun i j => .int (i / j)
theorem divOk_w {i j : Int} (h : divOk i j) : CDivW i j := by
  refine wide_div (b := 250) h.1 ?_ (by decide) (by decide)
  have h1 : (0 : Int) < j := h.1
  have h2 : j < 2 ^ 250 := h.2
  omega
theorem d_div {K : Fr} : DOp2 K (rI CDivW fun i j => .int (i / j)) wDiv := d_ii (fun _ _ => divOk_w) fun _ _ _ => .int _
@[simp] def wMod : W2 := wII (fun _ j => 0 < j) fun i j => .int (i % j)
theorem d_mod {K : Fr} : DOp2 K (rI (fun _ j => 0 < j) fun i j => .int (i % j)) wMod := d_ii (fun _ _ h => h) fun _ _ _ => .int _
@[simp] def wPow : W2 := wII CPow fun i j => .int (i ^ j.toNat)
theorem d_pow {K : Fr} : DOp2 K (rI CPow fun i j => .int (i ^ j.toNat)) wPow := d_ii (fun _ _ h => h) fun _ _ _ => .int _
@[simp] def wLt : W2 := wII (fun _ _ => True) fun i j => .bl (decide (i < j))
@[simp] def wLe : W2 := wII (fun _ _ => True) fun i j => .bl (decide (i ≤ j))
@[simp] def wGt : W2 := wII (fun _ _ => True) fun i j => .bl (decide (j < i))
@[simp] def wGe : W2 := wII (fun _ _ => True) fun i j => .bl (decide (j ≤ i))
theorem d_lt {K : Fr} : DOp2 K (rI0 fun i j => .bl (decide (i < j))) wLt := d_ii0 fun _ _ _ => .bl _
theorem d_le {K : Fr} : DOp2 K (rI0 fun i j => .bl (decide (i ≤ j))) wLe := d_ii0 fun _ _ _ => .bl _
theorem d_gt {K : Fr} : DOp2 K (rI0 fun i j => .bl (decide (j < i))) wGt := d_ii0 fun _ _ _ => .bl _
theorem d_ge {K : Fr} : DOp2 K (rI0 fun i j => .bl (decide (j ≤ i))) wGe := d_ii0 fun _ _ _ => .bl _

/-! ### equality of data -/
mutual
def py : D → PyData
  | .non => .none | .bl b => .bool b | .int i => .int i | .str x => .str x
  | .lst xs => .list (pys xs) | .tup xs => .tuple (pys xs) | .scr ns => .list (ns.map .int) | .dK _ => .none | .dT _ => .none
def pys : List D → List PyData
  | [] => []
  | x :: xs => py x :: pys xs
end
theorem pys_map : ∀ xs : List D, pys xs = xs.map py
  | [] => rfl
  | x :: xs => by rw [pys, pys_map xs]; rfl
/-- data without dicts, at most n deep -/
def shp : Nat → D → Bool
  | _, .non => true | _, .bl _ => true | _, .int _ => true | _, .str x => PyData.strOk x
  | 0, .lst _ => false | 0, .tup _ => false | 0, .scr _ => false
  | n + 1, .lst xs => xs.all (shp n) | n + 1, .tup xs => xs.all (shp n) | _ + 1, .scr _ => true
  | _, .dK _ => false | _, .dT _ => false
mutual
theorem shp_lay : ∀ (n : Nat) (d : D), shp n d = true → (py d).canLay0 = true ∧ (py d).depth ≤ n
  | n, .non, _ => by simp [py, PyData.canLay0, PyData.depth]
  | n, .bl _, _ => by simp [py, PyData.canLay0, PyData.depth]
  | n, .int _, _ => by simp [py, PyData.canLay0, PyData.depth]
  | n, .str x, h => by
    have h' : PyData.strOk x = true := by cases n <;> exact h
    simp [py, PyData.canLay0, PyData.depth, h']
  | 0, .lst xs, h => by simp [shp] at h
  | 0, .tup xs, h => by simp [shp] at h
  | 0, .scr xs, h => by simp [shp] at h
  | n + 1, .lst xs, h => by
    obtain ⟨h1, h2⟩ := shps_lay n xs (by simpa [shp] using h)
    simp only [py, PyData.canLay0, PyData.depth]
    exact ⟨h1, by omega⟩
  | n + 1, .tup xs, h => by
    obtain ⟨h1, h2⟩ := shps_lay n xs (by simpa [shp] using h)
    simp only [py, PyData.canLay0, PyData.depth]
    exact ⟨h1, by omega⟩
  | n + 1, .scr ns, h => by
    have h1 : PyData.canLayAll0 (ns.map .int) = true := by
      induction ns with
      | nil => rfl
      | cons a r ih => simp only [List.map_cons, PyData.canLayAll0, PyData.canLay0, Bool.true_and]; exact ih (by simp [shp])
    have h2 : PyData.depthAll (ns.map .int) = 0 := by
      clear h1 h
      induction ns with
      | nil => rfl
      | cons a r ih => simp only [List.map_cons, PyData.depthAll, PyData.depth, ih]; rfl
    simp only [py, PyData.canLay0, PyData.depth]
    exact ⟨h1, by omega⟩
  | 0, .dK _, h => by simp [shp] at h
  | 0, .dT _, h => by simp [shp] at h
  | _ + 1, .dK _, h => by simp [shp] at h
  | _ + 1, .dT _, h => by simp [shp] at h
theorem shps_lay : ∀ (n : Nat) (xs : List D), (∀ x ∈ xs, shp n x = true) → PyData.canLayAll0 (pys xs) = true ∧ PyData.depthAll (pys xs) ≤ n
  | n, [], _ => by simp [pys, PyData.canLayAll0, PyData.depthAll]
  | n, x :: xs, h => by
    obtain ⟨h1, h2⟩ := shp_lay n x (h x (by simp))
    obtain ⟨h3, h4⟩ := shps_lay n xs fun y hy => h y (by simp [hy])
    simp only [pys, PyData.canLayAll0, PyData.depthAll, h1, h3, Bool.true_and, true_and]
    omega
end
theorem shp_shaped {d : D} (h : shp 9 d = true) : SeqAt.shaped (py d) = true := by
  obtain ⟨h1, h2⟩ := shp_lay 9 d h
  simp only [SeqAt.shaped, h1, Bool.true_and, decide_eq_true_eq]
  omega
theorem dpAll_ints {K : Fr} {H : Hp} : ∀ ns : List Int, DpAll K H (ns.map V.int) (ns.map PyData.int)
  | [] => .nil
  | n :: ns => .cons (.int n) (dpAll_ints ns)
mutual
theorem dp_of {K : Fr} {H : Hp} : ∀ {n : Nat} {v : V} {d : D}, Rep K H v d → shp n d = true → Dp K H v (py d)
  | _, _, _, .non, _ => by simp only [py]; exact .non
  | _, _, _, .bl b, _ => by simp only [py]; exact .bl b
  | _, _, _, .int i, _ => by simp only [py]; exact .int i
  | _, _, _, .str x, _ => by simp only [py]; exact .str x
  | n, _, _, .ob e r, h => dpO_of r e h
  | _, _, _, .scr e, _ => by simp only [py]; exact .lst e (dpAll_ints _)
theorem dpO_of {K : Fr} {H : Hp} : ∀ {n : Nat} {o : HO} {d : D} {a : Addr}, RepO K H o d → H a = some o → shp n d = true → Dp K H (.ref a) (py d)
  | 0, _, _, _, .lst r, e, h => by simp [shp] at h
  | n + 1, _, _, _, .lst r, e, h => by simp only [py]; exact .lst (.of e) (dpL_of r (by simpa [shp] using h))
  | 0, _, _, _, .tup r, e, h => by simp [shp] at h
  | n + 1, _, _, _, .tup r, e, h => by simp only [py]; exact .tup (.of e) (dpL_of r (by simpa [shp] using h))
  | 0, _, _, _, .dK r, e, h => by simp [shp] at h
  | n + 1, _, _, _, .dK r, e, h => by simp [shp] at h
  | 0, _, _, _, .dT r, e, h => by simp [shp] at h
  | n + 1, _, _, _, .dT r, e, h => by simp [shp] at h
theorem dpL_of {K : Fr} {H : Hp} : ∀ {n : Nat} {vs : List V} {ds : List D}, RepL K H vs ds → (∀ d ∈ ds, shp n d = true) → DpAll K H vs (pys ds)
  | _, _, _, .nil, _ => by simp only [pys]; exact .nil
  | _, _, _, .cons a b, h => by
    simp only [pys]
    exact .cons (dp_of a (h _ (by simp))) (dpL_of b fun d hd => h d (by simp [hd]))
end
/-- Python's == of data -/
def deq (d e : D) : Bool := PyData.eqv (py d) (py e)
@[simp] def wEq : W2 := fun d e Φ => (shp 9 d = true ∧ shp 9 e = true) ∧ Φ (.bl (deq d e))
@[simp] def wNe : W2 := fun d e Φ => (shp 9 d = true ∧ shp 9 e = true) ∧ Φ (.bl (!deq d e))
theorem d_eq {K : Fr} : DOp2 K (rEqD K) wEq := fun F H x y d e Q Φ s rx ry w k =>
  ⟨py d, py e, dp_of (rx.rep s) w.1.1, dp_of (ry.rep s) w.1.2, shp_shaped w.1.1, shp_shaped w.1.2, k_same s k (.bl _) w.2⟩
theorem d_ne {K : Fr} : DOp2 K (rNeD K) wNe := fun F H x y d e Q Φ s rx ry w k =>
  ⟨py d, py e, dp_of (rx.rep s) w.1.1, dp_of (ry.rep s) w.1.2, shp_shaped w.1.1, shp_shaped w.1.2, k_same s k (.bl _) w.2⟩
theorem o_eq {K : Fr} {X : Cx} {k : Nat} (hr : Room k X.A) (hk : X.K = K) : OpR X (compareOp .Eq) (rEqD K) := by
  cases hk
  exact op_eqD hr.units
theorem o_ne {K : Fr} {X : Cx} {k : Nat} (hr : Room k X.A) (hk : X.K = K) : OpR X (compareOp .NotEq) (rNeD K) := by
  cases hk
  exact op_neD hr.units
/-! ### items -/
@[simp] def wIx : W2
  | .lst xs, .int i, Φ => ∃ z, atI xs i = some z ∧ Φ z
  | .tup xs, .int i, Φ => ∃ z, atI xs i = some z ∧ Φ z
  | .scr ns, .int i, Φ => ∃ z, atI ns i = some z ∧ Φ (.int z)
  | .str x, .int i, Φ => x.length ≤ sizeLine ∧ ∃ c, atI x.cps.toList i = some c ∧ Φ (.str ⟨#[c]⟩)
  | _, _, _ => False
theorem RepL.atI {K : Fr} {F : Hp} {vs : List V} {ds : List D} {i : Int} {z : D} (r : RepL K F vs ds) (h : L2.atI ds i = some z) : ∃ v, L2.atI vs i = some v ∧ Rep K F v z := by
  unfold L2.atI at h ⊢
  rw [r.length]
  cases q : ixN ds.length i with
  | none => rw [q] at h; cases h
  | some j => rw [q] at h; exact r.get h
theorem d_ix {K : Fr} : DOp2 K (rIx K) wIx := by
  intro F H x y d e Q Φ s rx ry w k
  cases e with
  | int i =>
    rw [ry.int]
    cases d with
    | lst xs =>
      obtain ⟨a, vs, rfl, ea, ra⟩ := rx.lst s
      obtain ⟨z, hz, φ⟩ := w
      obtain ⟨v, hv, rv⟩ := ra.atI hz
      exact .inl ⟨a, vs, i, v, rfl, rfl, .of ea, hv, k_same s k rv φ⟩
    | tup xs =>
      obtain ⟨a, vs, rfl, ea, ra⟩ := rx.tup s
      obtain ⟨z, hz, φ⟩ := w
      obtain ⟨v, hv, rv⟩ := ra.atI hz
      exact .inr (.inl ⟨a, vs, i, v, rfl, rfl, .of ea, hv, k_same s k rv φ⟩)
    | scr ns =>
      obtain ⟨a, rfl, ea⟩ := rx.scr s
      obtain ⟨z, hz, φ⟩ := w
      refine .inl ⟨a, _, i, .int z, rfl, rfl, ea, ?_, k_same s k (.int z) φ⟩
      unfold L2.atI at hz ⊢
      rw [List.length_map]
      cases q : ixN ns.length i with
      | none => rw [q] at hz; cases hz
      | some j =>
        rw [q] at hz
        have hz' : ns[j]? = some z := hz
        show (ns.map V.int)[j]? = some (.int z)
        rw [List.getElem?_map, hz']; rfl
    | str x =>
      rw [rx.str]
      obtain ⟨h1, c, h2, φ⟩ := w
      exact .inr (.inr ⟨x, i, c, rfl, rfl, h1, h2, k_same s k (.str _) φ⟩)
    | _ => exact w.elim
  | _ => cases d <;> exact w.elim
/-! ### built-ins -/
@[simp] def wLen : WC
  | [.lst xs], Φ => Φ (.int xs.length)
  | [.tup xs], Φ => Φ (.int xs.length)
  | [.scr ns], Φ => Φ (.int ns.length)
  | [.str x], Φ => x.length ≤ sizeLine ∧ Φ (.int x.length)
  | _, _ => False
theorem d_len {K : Fr} : DCall K (fun xs H Q => ∃ x n, xs = [x] ∧ LenV K x H n ∧ Q (.int n) H) wLen := by
  intro F H vs ds Q Φ s r w k
  match ds, w with
  | [.lst xs], w =>
    cases r with
    | cons r1 r2 =>
      cases r2
      obtain ⟨a, us, rfl, ea, ra⟩ := r1.lst s
      exact ⟨_, _, rfl, .inl ⟨us, .of ea, rfl⟩, by rw [ra.length]; exact k_same s k (.int _) w⟩
  | [.tup xs], w =>
    cases r with
    | cons r1 r2 =>
      cases r2
      obtain ⟨a, us, rfl, ea, ra⟩ := r1.tup s
      exact ⟨_, _, rfl, .inr ⟨us, .of ea, rfl⟩, by rw [ra.length]; exact k_same s k (.int _) w⟩
  | [.scr ns], w =>
    cases r with
    | cons r1 r2 =>
      cases r2
      obtain ⟨a, rfl, ea⟩ := r1.scr s
      exact ⟨_, _, rfl, .inl ⟨_, ea, rfl⟩, by rw [List.length_map]; exact k_same s k (.int _) w⟩
  | [.str x], w =>
    cases r with
    | cons r1 r2 =>
      cases r2
      rw [r1.str]
      exact ⟨_, _, rfl, ⟨w.1, rfl⟩, k_same s k (.int _) w.2⟩
/-- the ints of a list -/
def ints? : List D → Option (List Int)
  | [] => some []
  | .int i :: r => (ints? r).map (i :: ·)
  | _ :: _ => none
theorem ints_some : ∀ {ds : List D} {ns : List Int}, ints? ds = some ns → ds = ns.map .int
  | [], ns, h => by simp [ints?] at h; subst h; rfl
  | .int i :: r, ns, h => by
    simp only [ints?, Option.map_eq_some_iff] at h
    obtain ⟨ms, h1, rfl⟩ := h
    rw [ints_some h1]; rfl
  | .non :: _, _, h => by simp [ints?] at h
  | .bl _ :: _, _, h => by simp [ints?] at h
  | .str _ :: _, _, h => by simp [ints?] at h
  | .lst _ :: _, _, h => by simp [ints?] at h
  | .tup _ :: _, _, h => by simp [ints?] at h
  | .scr _ :: _, _, h => by simp [ints?] at h
  | .dK _ :: _, _, h => by simp [ints?] at h
  | .dT _ :: _, _, h => by simp [ints?] at h
@[simp] theorem ints_map (ns : List Int) : ints? (ns.map .int) = some ns := by
  induction ns with
  | nil => rfl
  | cons a r ih => simp [ints?, ih]
@[simp] def wInts (w : List Int → (D → Prop) → Prop) : WC
  | [.lst ds], Φ => ∃ ns, ints? ds = some ns ∧ w ns Φ
  | _, _ => False
theorem intsV {K : Fr} {F H : Hp} {vs : List V} {ds : List D} {w : List Int → (D → Prop) → Prop} {Φ : D → Prop} (s : Same F H) (r : BRepL K F H vs ds) (h : wInts w ds Φ) : ∃ a ns, vs = [.ref a] ∧ SqL K H a (ns.map V.int) ∧ w ns Φ := by
  match ds, h with
  | [.lst xs], h =>
    cases r with
    | cons r1 r2 =>
      cases r2
      obtain ⟨a, us, rfl, ea, ra⟩ := r1.lst s
      obtain ⟨ns, h1, h2⟩ := h
      rw [ints_some h1] at ra
      rw [ra.ints] at ea
      exact ⟨a, ns, rfl, .of ea, h2⟩
@[simp] def wSum : WC := wInts fun ns Φ => Φ (.int ns.sum)
theorem d_sum {K : Fr} : DCall K (rSum K) wSum := by
  intro F H vs ds Q Φ s r w k
  obtain ⟨a, ns, rfl, h, w⟩ := intsV s r w
  exact ⟨a, ns, rfl, h, k_same s k (.int _) w⟩
@[simp] def wMaxL : WC := wInts fun ns Φ => 0 < ns.length ∧ ∀ m, m ∈ ns → (∀ y, y ∈ ns → y ≤ m) → Φ (.int m)
@[simp] def wMinL : WC := wInts fun ns Φ => 0 < ns.length ∧ ∀ m, m ∈ ns → (∀ y, y ∈ ns → m ≤ y) → Φ (.int m)
theorem d_maxL {K : Fr} : DCall K (rMax K) wMaxL := by
  intro F H vs ds Q Φ s r w k
  obtain ⟨a, ns, rfl, h, w1, w2⟩ := intsV s r w
  exact ⟨a, ns, rfl, h, w1, fun m h1 h2 => k_same s k (.int _) (w2 m h1 h2)⟩
theorem d_minL {K : Fr} : DCall K (rMin K) wMinL := by
  intro F H vs ds Q Φ s r w k
  obtain ⟨a, ns, rfl, h, w1, w2⟩ := intsV s r w
  exact ⟨a, ns, rfl, h, w1, fun m h1 h2 => k_same s k (.int _) (w2 m h1 h2)⟩
@[simp] def wSortI : WC := wInts fun ns Φ => ∀ ns' : List Int, ns'.Perm ns → ns'.Pairwise (· ≤ ·) → Φ (.lst (ns'.map .int))
theorem f_sortI {K : Fr} : DFCall K (rSortedI K) wSortI := by
  intro F H vs ds Q Φ s r w k
  obtain ⟨a, ns, rfl, h, w⟩ := intsV s r w
  exact ⟨a, ns, rfl, h, fun ns' p h1 h2 n => k_newF s k (.lst (RepL.ofInts ns')) (w ns' h1 h2) p n⟩
@[simp] def w2I (g : Int → Int → Int) : WC
  | [.int i, .int j], Φ => Φ (.int (g i j))
  | _, _ => False
theorem d_2I {K : Fr} {g : Int → Int → Int} : DCall K (fun xs H Q => ∃ i j, xs = [V.int i, .int j] ∧ Q (.int (g i j)) H) (w2I g) := by
  intro F H vs ds Q Φ s r w k
  match ds, w with
  | [.int i, .int j], w =>
    cases r with
    | cons r1 r2 =>
      cases r2 with
      | cons r2 r3 =>
        cases r3
        rw [r1.int, r2.int]
        exact ⟨i, j, rfl, k_same s k (.int _) w⟩
@[simp] def wMax2 : WC := w2I fun i j => if j > i then j else i
@[simp] def wMin2 : WC := w2I fun i j => if j < i then j else i
@[simp] def wInt : WC
  | [.int i], Φ => Φ (.int i)
  | [.bl b], Φ => Φ (.int (if b then 1 else 0))
  | _, _ => False
theorem d_int {K : Fr} : DCall K (fun xs H Q => (∃ i, xs = [V.int i] ∧ Q (.int i) H) ∨ ∃ k, xs = [.bl k] ∧ Q (.int (if k then 1 else 0)) H) wInt := by
  intro F H vs ds Q Φ s r w k
  match ds, w with
  | [.int i], w =>
    cases r with
    | cons r1 r2 => cases r2; rw [r1.int]; exact .inl ⟨i, rfl, k_same s k (.int _) w⟩
  | [.bl i], w =>
    cases r with
    | cons r1 r2 => cases r2; rw [r1.bl]; exact .inr ⟨i, rfl, k_same s k (.int _) w⟩
@[simp] def wAbs : WC
  | [.int i], Φ => Φ (.int (if i < 0 then -i else i))
  | _, _ => False
theorem d_abs {K : Fr} : DCall K (fun xs H Q => ∃ i, xs = [V.int i] ∧ Q (.int (if i < 0 then -i else i)) H) wAbs := by
  intro F H vs ds Q Φ s r w k
  match ds, w with
  | [.int i], w =>
    cases r with
    | cons r1 r2 => cases r2; rw [r1.int]; exact ⟨i, rfl, k_same s k (.int _) w⟩
@[simp] def wDivmod : WC
  | [.int i, .int j], Φ => CDiv i j ∧ Φ (.tup [.int (i / j), .int (i % j)])
  | _, _ => False
theorem d_divmod {K : Fr} : DCall K (fun xs H Q => ∃ i j, xs = [V.int i, .int j] ∧ CDiv i j ∧ ∀ p, H p = none → Q (.ref p) (upd H p (.tup [.int (i / j), .int (i % j)]))) wDivmod := by
  intro F H vs ds Q Φ s r w k
  match ds, w with
  | [.int i, .int j], w =>
    cases r with
    | cons r1 r2 =>
      cases r2 with
      | cons r2 r3 =>
        cases r3
        rw [r1.int, r2.int]
        exact ⟨i, j, rfl, w.1, k_new s k (.tup (.cons (.int _) (.cons (.int _) .nil))) w.2⟩
/-- list(x), of a list or a tuple -/
@[simp] def wList : WC
  | [.lst xs], Φ => Φ (.lst xs)
  | [.tup xs], Φ => Φ (.lst xs)
  | [.scr ns], Φ => Φ (.lst (ns.map .int))
  | _, _ => False
theorem f_list {K : Fr} : DFCall K (fun xs H Q => ∃ p ys, xs = [.ref p] ∧ (SqL K H p ys ∨ SqT K H p ys) ∧ ∀ l, H l = none → Q (.ref l) (upd H l (.lst ys))) wList := by
  intro F H vs ds Q Φ s r w k
  match ds, w with
  | [.lst xs], w =>
    cases r with
    | cons r1 r2 =>
      cases r2
      obtain ⟨a, us, rfl, ea, ra⟩ := r1.lst s
      exact ⟨a, us, rfl, .inl (.of ea), k_newF s k (.lst ra) w⟩
  | [.tup xs], w =>
    cases r with
    | cons r1 r2 =>
      cases r2
      obtain ⟨a, us, rfl, ea, ra⟩ := r1.tup s
      exact ⟨a, us, rfl, .inr (.of ea), k_newF s k (.lst ra) w⟩
  | [.scr ns], w =>
    cases r with
    | cons r1 r2 =>
      cases r2
      obtain ⟨a, rfl, ea⟩ := r1.scr s
      exact ⟨a, _, rfl, .inl ea, k_newF s k (.lst (RepL.ofInts ns)) w⟩
/-- tuple(x) -/
@[simp] def wTuple : WC
  | [.lst xs], Φ => Φ (.tup xs)
  | [.tup xs], Φ => Φ (.tup xs)
  | _, _ => False
theorem d_tuple {K : Fr} : DCall K (fun xs H Q => ∃ p ys, xs = [.ref p] ∧ ((SqL K H p ys ∧ ∀ l, H l = none → Q (.ref l) (upd H l (.tup ys))) ∨ (SqT K H p ys ∧ Q (.ref p) H))) wTuple := by
  intro F H vs ds Q Φ s r w k
  match ds, w with
  | [.lst xs], w =>
    cases r with
    | cons r1 r2 =>
      cases r2
      obtain ⟨a, us, rfl, ea, ra⟩ := r1.lst s
      exact ⟨a, us, rfl, .inl ⟨.of ea, k_new s k (.tup ra) w⟩⟩
  | [.tup xs], w =>
    cases r with
    | cons r1 r2 =>
      cases r2
      obtain ⟨a, us, rfl, ea, ra⟩ := r1.tup s
      refine ⟨a, us, rfl, .inr ⟨.of ea, ?_⟩⟩
      rcases r1 with r1 | ⟨_, _, _, _, _, r1⟩
      · exact k_same s k r1 w
      · cases r1
/-- all, any of a list of bools -/
def bls? : List D → Option (List Bool)
  | [] => some []
  | .bl i :: r => (bls? r).map (i :: ·)
  | _ :: _ => none
theorem bls_some {K : Fr} {F : Hp} : ∀ {ds : List D} {ns : List Bool} {vs : List V}, bls? ds = some ns → RepL K F vs ds → vs = ns.map V.bl
  | [], ns, vs, h, r => by simp [bls?] at h; subst h; cases r; rfl
  | .bl i :: r, ns, vs, h, q => by
    simp only [bls?, Option.map_eq_some_iff] at h
    obtain ⟨ms, h1, rfl⟩ := h
    cases q with
    | cons q1 q2 => rw [q1.bl_inv, bls_some h1 q2]; rfl
  | .non :: _, _, _, h, _ => by simp [bls?] at h
  | .int _ :: _, _, _, h, _ => by simp [bls?] at h
  | .str _ :: _, _, _, h, _ => by simp [bls?] at h
  | .lst _ :: _, _, _, h, _ => by simp [bls?] at h
  | .tup _ :: _, _, _, h, _ => by simp [bls?] at h
  | .scr _ :: _, _, _, h, _ => by simp [bls?] at h
  | .dK _ :: _, _, _, h, _ => by simp [bls?] at h
  | .dT _ :: _, _, _, h, _ => by simp [bls?] at h
@[simp] theorem bls_map (ns : List Bool) : bls? (ns.map .bl) = some ns := by
  induction ns with
  | nil => rfl
  | cons a r ih => simp [bls?, ih]
@[simp] def wBls (g : List Bool → Bool) : WC
  | [.lst ds], Φ => ∃ bs, bls? ds = some bs ∧ Φ (.bl (g bs))
  | _, _ => False
theorem d_bls {K : Fr} {g : List Bool → Bool} : DCall K (fun vs H Q => ∃ (a : Addr) (bs : List Bool), vs = [V.ref a] ∧ SqL K H a (bs.map V.bl) ∧ Q (.bl (g bs)) H) (wBls g) := by
  intro F H vs ds Q Φ s r w k
  match ds, w with
  | [.lst xs], w =>
    cases r with
    | cons r1 r2 =>
      cases r2
      obtain ⟨a, us, rfl, ea, ra⟩ := r1.lst s
      obtain ⟨bs, h1, φ⟩ := w
      exact ⟨a, bs, rfl, by rw [← bls_some h1 ra]; exact .of ea, k_same s k (.bl _) φ⟩
@[simp] def wAll : WC := wBls fun bs => bs.all id
@[simp] def wAny : WC := wBls fun bs => bs.any id
/-! ### isinstance -/
@[simp] def isiB (T : String) : D → Bool
  | .non => false
  | .bl _ => T == "bool" || T == "int"
  | .int _ => T == "int"
  | .str _ => T == "str"
  | .lst _ => T == "list"
  | .scr _ => T == "list"
  | .tup _ => T == "tuple"
  | .dK _ => T == "dict"
  | .dT _ => T == "dict"
def tyN : D → String
  | .non => "NoneType" | .bl _ => "bool" | .int _ => "int" | .str _ => "str" | .lst _ => "list" | .scr _ => "list" | .tup _ => "tuple" | .dK _ => "dict" | .dT _ => "dict"
theorem tyX_of {K : Fr} {F H : Hp} {v : V} {d : D} (s : Same F H) (r : BRep K F H v d) : TyX K H v (.type (tyN d)) := by
  cases d with
  | non => rw [r.non]; exact .base .non
  | bl b => rw [r.bl]; exact .base (.bl b)
  | int b => rw [r.int]; exact .base (.int b)
  | str b => rw [r.str]; exact .base (.str b)
  | lst xs => obtain ⟨a, us, rfl, ea, ra⟩ := r.lst s; exact .base (.lst ea)
  | tup xs => obtain ⟨a, us, rfl, ea, ra⟩ := r.tup s; exact .base (.tup ea)
  | scr ns =>
    obtain ⟨a, rfl, ea⟩ := r.scr s
    rcases ea with (ea | ⟨o, ea⟩) | ⟨o, its, n, h1, h2, _⟩
    · exact .base (.lst ea)
    · exact .base (.frz ea)
    · exact .kList h1 h2
  | dK kvs =>
    rcases r with r | ⟨a, o, rfl, n, q, r⟩
    · cases r with
      | ob e r => cases r; exact .base (.dK (s _ _ e))
    · cases r; exact .base (.dK q)
  | dT kvs =>
    rcases r with r | ⟨a, o, rfl, n, q, r⟩
    · cases r with
      | ob e r => cases r; exact .base (.dT (s _ _ e))
    · cases r; exact .base (.dT q)
@[simp] def wIsi (T : String) : W1 := fun d Φ => Φ (.bl (isiB T d))
theorem de_isi {K : Fr} {X : Cx} {a : Expr} {ta : TE} {fa : WE} {T : String} {p p2 pos : Pos} (ha : DB K X a ta fa) (hm : X.mg "isinstance" = none) (hm2 : X.mg T = none) (hT : bootBuiltins T = some (.type T)) (hk : ∀ d : D, kitB (tyN d) T = some (isiB T d)) (hg : Gl X "isinstance" := by rfl) (hg2 : Gl X (Str.ofString T) := by rfl)
    (hn : (Str.ofString T) ≠ "__name__" := by decide) (hdb : ((Str.ofString T) == ("__debug__" : Str)) = false := by decide)
    (he : starEach [a, .Name (Str.ofString T) p2] X.env = (false, eval a X.env) :: starEach [.Name (Str.ofString T) p2] X.env := by rfl) :
    DE K X (.Call (.Name "isinstance" p) [a, .Name (Str.ofString T) p2] [] pos) (tCB (rIsi K) (tCons ta (tCons (tC (.ty T)) tNil))) (w1 (wIsi T) fa) := by
  obtain rfl := ha.k
  refine ⟨rfl, pe_callB call_isi hg hm (by decide +kernel) (pa_cons ha.p (pa_cons (pe_bltn hg2 hm2 hT rfl hn hdb) pa_nil) he) (by decide) (by decide) he rfl, fun B HB F Γ σ H Q Φ j w k => ha.s B HB F Γ σ H _ _ j w fun v d F' H' g r φ => ?_⟩
  exact ⟨v, _, _, _, isiB T d, rfl, .ty T, tyX_of g.fh r, kit_ty (hk d), k _ _ F' H' g (.bl _) φ⟩
/-! ### the kit's rules, by K -/
section
variable {K : Fr} {X : Cx}
theorem o_cat (_ : X.K = K) : OpR X (binaryOp .Add) rCat := op_cat
theorem o_rep (_ : X.K = K) : OpR X (binaryOp .Mult) rRep := op_rep
theorem o_sub (_ : X.K = K) : OpR X (binaryOp .Sub) (rI0 fun i j => .int (i - j)) := op_sub
theorem o_div (_ : X.K = K) : OpR X (binaryOp .FloorDiv) (rI CDivW fun i j => .int (i / j)) := op_fdivW
theorem o_mod (_ : X.K = K) : OpR X (binaryOp .Mod) (rI (fun _ j => 0 < j) fun i j => .int (i % j)) := op_mod
theorem o_pow (_ : X.K = K) : OpR X (binaryOp .Pow) (rI CPow fun i j => .int (i ^ j.toNat)) := op_pow
theorem o_lt (_ : X.K = K) : OpR X (compareOp .Lt) (rI0 fun i j => .bl (decide (i < j))) := op_lt
theorem o_le (_ : X.K = K) : OpR X (compareOp .LtE) (rI0 fun i j => .bl (decide (i ≤ j))) := op_le
theorem o_gt (_ : X.K = K) : OpR X (compareOp .Gt) (rI0 fun i j => .bl (decide (j < i))) := op_gt
theorem o_ge (_ : X.K = K) : OpR X (compareOp .GtE) (rI0 fun i j => .bl (decide (j ≤ i))) := op_ge
theorem o_iadd (_ : X.K = K) : OpR X (inplaceOp .Add) (rI0 fun i j => .int (i + j)) := iop_add
theorem o_isub (_ : X.K = K) : OpR X (inplaceOp .Sub) (rI0 fun i j => .int (i - j)) := iop_sub
theorem x_seq (hk : X.K = K) : IxR X (rIx K) := by cases hk; exact ix_seq
theorem c_len (hk : X.K = K) : CallR X (.builtin "len") (fun xs H Q => ∃ x n, xs = [x] ∧ LenV K x H n ∧ Q (.int n) H) := by cases hk; exact call_len
theorem c_sum (hc : X.calm = true) (hk : X.K = K) : CallR X (.builtin "sum") (rSum K) := by cases hk; exact cr_sum hc
theorem c_maxL (hc : X.calm = true) (hk : X.K = K) : CallR X (.builtin "max") (rMax K) := by cases hk; exact cr_max hc
theorem c_minL (hc : X.calm = true) (hk : X.K = K) : CallR X (.builtin "min") (rMin K) := by cases hk; exact cr_min hc
theorem c_max2 (hc : X.calm = true) (_ : X.K = K) : CallR X (.builtin "max") (fun xs H Q => ∃ i j, xs = [V.int i, .int j] ∧ Q (.int (if j > i then j else i)) H) := call_max2 hc
theorem c_min2 (hc : X.calm = true) (_ : X.K = K) : CallR X (.builtin "min") (fun xs H Q => ∃ i j, xs = [V.int i, .int j] ∧ Q (.int (if j < i then j else i)) H) := call_min2 hc
theorem c_int (_ : X.K = K) : CallR X (.type "int") (fun xs H Q => (∃ i, xs = [V.int i] ∧ Q (.int i) H) ∨ ∃ k, xs = [.bl k] ∧ Q (.int (if k then 1 else 0)) H) := call_int1
theorem c_abs (_ : X.K = K) : CallR X (.builtin "abs") (fun xs H Q => ∃ i, xs = [V.int i] ∧ Q (.int (if i < 0 then -i else i)) H) := call_abs
theorem c_divmod (_ : X.K = K) : CallR X (.builtin "divmod") (fun xs H Q => ∃ i j, xs = [V.int i, .int j] ∧ CDiv i j ∧ ∀ p, H p = none → Q (.ref p) (upd H p (.tup [.int (i / j), .int (i % j)]))) := call_divmod
theorem c_list (hk : X.K = K) : CallR X (.type "list") (fun xs H Q => ∃ p ys, xs = [.ref p] ∧ (SqL K H p ys ∨ SqT K H p ys) ∧ ∀ l, H l = none → Q (.ref l) (upd H l (.lst ys))) := by cases hk; exact call_list_of
theorem c_tuple (hk : X.K = K) : CallR X (.type "tuple") (fun xs H Q => ∃ p ys, xs = [.ref p] ∧ ((SqL K H p ys ∧ ∀ l, H l = none → Q (.ref l) (upd H l (.tup ys))) ∨ (SqT K H p ys ∧ Q (.ref p) H))) := by cases hk; exact call_tuple_of
theorem c_sortI (hk : X.K = K) : CallR X (.builtin "sorted") (rSortedI K) := by cases hk; exact cr_sortedI
theorem c_all (hc : X.calm = true) (hk : X.K = K) : CallR X (.builtin "all") (rAll K) := by cases hk; exact cr_all hc
theorem c_any (hc : X.calm = true) (hk : X.K = K) : CallR X (.builtin "any") (rAny K) := by cases hk; exact cr_any hc
end
end DL

set_option Elab.async false
set_option linter.all false
set_option maxRecDepth 100000
set_option maxHeartbeats 4000000
namespace DL
open PySem PySem.Spec PyProof.Rows L2

/-! ### in -/
theorem room65 {k : Nat} {A : Around} (hr : Room k A) : A.units + 65 < cLine := by have := hr.un; omega
@[simp] def flatD : D → Bool
  | .non => true | .bl _ => true | .int _ => true | .str _ => true
  | _ => false
@[simp] def wInD (neg : Bool) : W2
  | d, .lst xs, Φ => (shp 9 d = true ∧ shp 9 (.lst xs) = true) ∧ Φ (.bl (if neg then !(xs.any fun z => deq z d) else xs.any fun z => deq z d))
  | d, .tup xs, Φ => (flatD d = true ∧ xs.all flatD = true) ∧ Φ (.bl (if neg then !(xs.any fun z => deq z d) else xs.any fun z => deq z d))
  | _, _, _ => False
@[simp] def wIn : W2 := wInD false
@[simp] def wNotIn : W2 := wInD true
def rInA (K : Fr) : R2 := fun x y H Q => rInD K x y H Q ∨ rIn K false x y H Q
def rNotInA (K : Fr) : R2 := fun x y H Q => rNotInD K x y H Q ∨ rIn K true x y H Q
theorem o_in {K : Fr} {X : Cx} {k : Nat} (hr : Room k X.A) (hk : X.K = K) : OpR X (compareOp .In) (rInA K) := by
  cases hk
  exact (op_inD (room65 hr)).or op_in_seq
theorem o_notIn {K : Fr} {X : Cx} {k : Nat} (hr : Room k X.A) (hk : X.K = K) : OpR X (compareOp .NotIn) (rNotInA K) := by
  cases hk
  exact (op_notInD (room65 hr)).or op_notIn_seq
def toV : D → V
  | .bl b => .bl b | .int i => .int i | .str x => .str x | _ => .non
theorem flat_rep {K : Fr} {F : Hp} {v : V} {d : D} (r : Rep K F v d) (h : flatD d = true) : v = toV d := by
  cases d with
  | non => exact r.non_inv
  | bl b => exact r.bl_inv
  | int b => exact r.int_inv
  | str b => exact r.str_inv
  | _ => cases h
theorem flat_brep {K : Fr} {F H : Hp} {v : V} {d : D} (r : BRep K F H v d) (h : flatD d = true) : v = toV d := by
  rcases r with r | ⟨a, o, rfl, n, q, r⟩
  · exact flat_rep r h
  · cases r <;> cases h
theorem flat_toV {d : D} (h : flatD d = true) : flatV (toV d) = true := by cases d <;> first | rfl | cases h
theorem flat_repL {K : Fr} {F : Hp} : ∀ {vs : List V} {ds : List D}, RepL K F vs ds → ds.all flatD = true → vs = ds.map toV
  | _, _, .nil, _ => rfl
  | _, _, .cons a b, h => by
    simp only [List.all_cons, Bool.and_eq_true] at h
    rw [flat_rep a h.1, flat_repL b h.2]; rfl
theorem eqV_deq {d e : D} (h : flatD d = true) (h' : flatD e = true) : eqV (toV d) (toV e) = deq d e := by
  cases d <;> cases h <;> cases e <;> cases h' <;> simp [toV, eqV, deq, py, PyData.eqv]
theorem inV_deq {d : D} {xs : List D} (h : flatD d = true) (h' : xs.all flatD = true) : inV (toV d) (xs.map toV) = xs.any fun z => deq z d := by
  unfold inV
  rw [List.any_map]
  induction xs with
  | nil => rfl
  | cons z r ih =>
    simp only [List.all_cons, Bool.and_eq_true] at h'
    simp only [List.any_cons, Function.comp, eqV_deq h'.1 h]
    rw [← ih h'.2]
    try rfl
theorem any_py (xs : List D) (d : D) : (pys xs).any (fun z => PyData.eqv z (py d)) = xs.any fun z => deq z d := by
  rw [pys_map, List.any_map]; rfl
theorem d_inD {K : Fr} {neg : Bool} {r : R2} (h1 : ∀ x y H Q d ds, Dp K H x d → Dp K H y (.list ds) → SeqAt.shaped d = true → SeqAt.shaped (.list ds) = true → Q (.bl (if neg then !(ds.any fun z => PyData.eqv z d) else ds.any fun z => PyData.eqv z d)) H → r x y H Q)
    (h2 : ∀ x y H Q, rIn K neg x y H Q → r x y H Q) : DOp2 K r (wInD neg) := by
  intro F H x y d e Q Φ s rx ry w k
  cases e with
  | lst xs =>
    obtain ⟨⟨w1, w2⟩, w3⟩ := w
    refine h1 x y H Q (py d) (pys xs) (dp_of (rx.rep s) w1) (by have := dp_of (ry.rep s) w2; simpa only [py] using this) (shp_shaped w1) (by have := shp_shaped w2; simpa only [py] using this) ?_
    rw [any_py]
    exact k_same s k (.bl _) w3
  | tup xs =>
    obtain ⟨⟨w1, w2⟩, w3⟩ := w
    obtain ⟨a, vs, rfl, ea, ra⟩ := ry.tup s
    refine h2 _ _ _ _ ⟨a, vs, rfl, .inr (.of ea), ?_, ?_, ?_⟩
    · rw [flat_brep rx w1]; exact flat_toV w1
    · rw [flat_repL ra w2, List.all_map]
      rw [List.all_eq_true] at w2 ⊢
      exact fun z hz => flat_toV (w2 z hz)
    · rw [flat_brep rx w1, flat_repL ra w2, inV_deq w1 w2]
      exact k_same s k (.bl _) w3
  | _ => cases d <;> exact w.elim
theorem d_in {K : Fr} : DOp2 K (rInA K) wIn := d_inD (fun x y H Q d ds a b c e f => .inl ⟨d, ds, a, b, c, e, f⟩) fun x y H Q h => .inr h
theorem d_notIn {K : Fr} : DOp2 K (rNotInA K) wNotIn := d_inD (fun x y H Q d ds a b c e f => .inl ⟨d, ds, a, b, c, e, f⟩) fun x y H Q h => .inr h
/-! ### is True -/
@[simp] def wBB (n : Bool) : W2
  | .bl a, .bl b, Φ => Φ (.bl (if n then !decide (a = b) else decide (a = b)))
  | _, _, _ => False
@[simp] def wIsB : W2 := wBB false
@[simp] def wNotB : W2 := wBB true
theorem o_isBl {K : Fr} {X : Cx} (_ : X.K = K) : OpR X (compareOp .Is) rIsB := op_isBl
theorem o_notBl {K : Fr} {X : Cx} (_ : X.K = K) : OpR X (compareOp .IsNot) rNotB := op_notBl
theorem d_isBl {K : Fr} : DOp2 K rIsB wIsB := by
  intro F H x y d e Q Φ s rx ry w k
  cases d with
  | bl a =>
    cases e with
    | bl b => rw [rx.bl, ry.bl]; exact ⟨a, b, rfl, rfl, k_same s k (.bl _) w⟩
    | _ => exact w.elim
  | _ => exact w.elim
theorem d_notBl {K : Fr} : DOp2 K rNotB wNotB := by
  intro F H x y d e Q Φ s rx ry w k
  cases d with
  | bl a =>
    cases e with
    | bl b => rw [rx.bl, ry.bl]; exact ⟨a, b, rfl, rfl, k_same s k (.bl _) w⟩
    | _ => exact w.elim
  | _ => exact w.elim
@[simp] def wAddI : W2 := wII (fun _ _ => True) fun i j => .int (i + j)
theorem d_addI {K : Fr} : DOp2 K (rI0 fun i j => .int (i + j)) wAddI := d_ii0 fun _ _ _ => .int _
theorem kit_list : ∀ d : D, kitB (tyN d) "list" = some (isiB "list" d) := fun d => by cases d <;> simp only [tyN, isiB] <;> decide +kernel
theorem kit_tuple : ∀ d : D, kitB (tyN d) "tuple" = some (isiB "tuple" d) := fun d => by cases d <;> simp only [tyN, isiB] <;> decide +kernel
theorem kit_bool : ∀ d : D, kitB (tyN d) "bool" = some (isiB "bool" d) := fun d => by cases d <;> simp only [tyN, isiB] <;> decide +kernel
theorem kit_int : ∀ d : D, kitB (tyN d) "int" = some (isiB "int" d) := fun d => by cases d <;> simp only [tyN, isiB] <;> decide +kernel
theorem kit_str : ∀ d : D, kitB (tyN d) "str" = some (isiB "str" d) := fun d => by cases d <;> simp only [tyN, isiB] <;> decide +kernel
section
variable {K : Fr} {X : Cx} {e a b : Expr} {t ta : TE} {f fa : WE} {th : TA} {h : WA} {pos p : Pos}
/-- not e, as a value, by truth -/
@[simp] def wNotT (f : WE) : WE := fun Γ Φ => f Γ fun d => truD d fun c => Φ (.bl (!c))
theorem de_notT (ha : DB K X a ta fa) : DE K X (.UnaryOp .Not a pos) (tNotT K ta) (wNotT fa) := by
  obtain rfl := ha.k
  refine ⟨rfl, pe_notT ha.p, fun B HB F Γ σ H Q Φ j w k => ha.s B HB F Γ σ H _ _ j w fun v d F' H' g r φ => ?_⟩
  obtain ⟨c, h1, h2⟩ := tru_of g.fh r φ
  exact ⟨c, h1, k _ _ F' H' g (.bl _) h2⟩
/-- xs[::-1] -/
@[simp] def wRev : W1
  | .lst xs, Φ => Φ (.lst xs.reverse)
  | _, _ => False
theorem df_rev {k : Nat} {p1 p2 p3 : Pos} (ha : DB K X a ta fa) : DF K X (.Subscript a (.Slice none none (some (.UnaryOp .USub (.Constant (.int 1) k p1) p2)) p3) pos) (tRevL K ta) (w1 wRev fa) := by
  obtain rfl := ha.k
  refine ⟨rfl, pe_revL ha.p, fun B HB F Γ σ H Q Φ j w k => ha.s B HB F Γ σ H _ _ j w fun v d F' H' g r φ => ?_⟩
  cases d with
  | lst xs =>
    obtain ⟨a, us, rfl, ea, ra⟩ := r.lst g.fh
    exact ⟨a, us, rfl, .of ea, fun p n => k p _ _ F' _ (g.trans (.newH g.fh n)) (g.fh.free n) (g.hh.free n) upd_same (.lst ra.reverse) φ⟩
  | _ => exact φ.elim
theorem di_zip {elts : List Expr} {kk : Nat} {tpos : Pos} (hm : X.mg "zip" = none) (ha : DA K X [a, b] th h) (hg : Gl X "zip" := by rfl)
    (hs : starEach [a, b] X.env = (false, eval a X.env) :: starEach [b] X.env := by rfl) (hpl : (backTo pos (starEach [b] X.env)).any (·.1) = false := by rfl) :
    DI K X (.Tuple elts kk tpos) (.Call (.Name "zip" p) [a, b] [] pos) (iZip K th) (wItZ h) := by
  obtain ⟨rfl, pt, q⟩ := ha
  refine ⟨rfl, pi_zip hg hm pt hs hpl, fun B HB F Γ σ H R Φ j w k => q B HB F Γ σ H _ _ j w fun vs ds F' H' g r φ => ?_⟩
  match ds, φ with
  | [.lst ds, .lst es], φ =>
    cases r with
    | cons r1 r2 =>
      cases r2 with
      | cons r2 r3 =>
        cases r3
        obtain ⟨a, vs, rfl, e, rl⟩ := r1.lst_inv
        obtain ⟨b, ws, rfl, e', rl'⟩ := r2.lst_inv
        exact ⟨a, b, vs, ws, rfl, .of (g.fh _ _ e), .of (g.fh _ _ e'), k _ _ F' H' g (wk_zip (.of e) rl (.of e') rl') φ⟩
/-- xs.append(ys.pop(e)), two names' own lists -/
@[simp] def sAppPop (i l : Nat) (fe : WE) : WS := fun Γ κ => ∃ xs ys, i ≠ l ∧ Γ[i]? = some (some (.own (.lst xs))) ∧ Γ[l]? = some (some (.own (.lst ys))) ∧ fe Γ fun kd => ∃ kk jj z, kd = .int kk ∧ -(2 ^ 63) ≤ kk ∧ kk < 2 ^ 63 ∧ seqIndex? kk ys.length = some jj ∧ ys[jj]? = some z ∧ xs.length < sizeLine ∧
  κ.nx ((Γ.set l (some (.own (.lst (ys.eraseIdx jj))))).set i (some (.own (.lst (xs ++ [z])))))
theorem apop_sound {fr : Bool} {i l : Nat} (he : SE K t f) : SS fr K (tDrop (tBM K "list" rAppend (tVar i) (tCons (tBM K "list" rPopAt (tVar l) (tCons t tNil)) tNil))) (sAppPop i l f) := by
  intro B HB F Γ σ H D κ j w k
  obtain ⟨xs, ys, nil', e1, e2, w⟩ := w
  obtain ⟨a, vs, ea, m1, m2, q, r⟩ := ownL j e1
  obtain ⟨b, us, eb, m3, m4, q', r'⟩ := ownL j e2
  refine ⟨_, ea, .inl ⟨rfl, _, .of q⟩, ?_⟩
  refine ⟨_, eb, .inl ⟨rfl, _, .of q'⟩, he B HB F Γ σ H _ _ j w fun z zd F1 H1 g1 r1 w1 => ?_⟩
  obtain ⟨kk, jj, z, rfl, b1, b2, hj, hz, hl, w1⟩ := w1
  rw [r1.int_inv]
  have j1 := j.grow g1
  obtain ⟨b', us', eb', _, _, q2, rl⟩ := ownL j1 e2
  rw [eb] at eb'
  cases eb'
  obtain ⟨v, hv, rv⟩ := rl.get hz
  refine ⟨b, us', kk, jj, v, rfl, rfl, q2, b1, b2, by rw [rl.length]; exact hj, hv, ?_⟩
  have j2 := j1.write e2 eb (.lst (rl.eraseIdx jj))
  have e1' : (Γ.set l (some (.own (.lst (ys.eraseIdx jj)))))[i]? = some (some (.own (.lst xs))) := by rw [List.getElem?_set_ne (Ne.symm nil')]; exact e1
  obtain ⟨a', vs', ea', _, _, q3, rl3⟩ := ownL j2 e1'
  rw [ea] at ea'
  cases ea'
  refine ⟨a, vs', v, rfl, rfl, q3, by rw [rl3.length]; exact hl, ?_⟩
  exact k.nx F1 _ σ _ (j2.write e1' ea (.lst (rl3.append (.cons rv .nil)))) w1
end
section
variable {K : Fr} {X : Cx} {fr : Bool} {e o : Expr} {es : List Expr} {te to : TE} {fe : WE} {pos p1 p2 p3 : Pos}
theorem app_pe {i : Nat} {t : TA} (hk : X.K = K) (he : PA X [e] t) (ho : PE X o to) (hbase : attributeBase o "append" X.env (eval o X.env) = eval o X.env)
    (hfew : ((backTo p3 (starEach [e] X.env)).all (fun x => !x.1) && (backToKw p3 (keywordEach [] X.env)).all (fun x => x.1.isSome)
      && decide ([e].length + ([] : List Keyword).length + (if ([] : List Keyword).isEmpty then 0 else 1) < 30)) = true)
    (hline : (p2.endLine == p3.line) = true) (hs : starEach [e] X.env = (false, eval e X.env) :: starEach [] X.env) :
    PE X (.Call (.Attribute o "append" p2) [e] [] p3) (tBM K "list" rAppend to t) := by
  cases hk
  exact pe_bm PySem.F.plainAttrs_list PySem.F.slot_list_append PySem.F.type_list_append mt_append ho he hbase hfew hline hs rfl
theorem ds_app (i : Nat) {x : Str} (he : DE K X e te fe) (hN : X.N[i]? = some x := by rfl) (hv : Vis X.env.scope x := by first | exact Or.inl rfl | exact Or.inr (Or.inl rfl) | exact Or.inr (Or.inr rfl)) (hd : (x == ("__debug__" : Str)) = false := by decide)
    (hcd : (x == ("__classdict__" : Str)) = false := by decide) (hbase : attributeBase (.Name x p1) "append" X.env (eval (.Name x p1) X.env) = eval (.Name x p1) X.env := by rfl)
    (hfew : ((backTo p3 (starEach [e] X.env)).all (fun x => !x.1) && (backToKw p3 (keywordEach [] X.env)).all (fun x => x.1.isSome)
      && decide ([e].length + ([] : List Keyword).length + (if ([] : List Keyword).isEmpty then 0 else 1) < 30)) = true := by rfl)
    (hline : (p2.endLine == p3.line) = true := by rfl) (hs : starEach [e] X.env = (false, eval e X.env) :: starEach [] X.env := by rfl) (hsw : swapsWith (.Call (.Attribute (.Name x p1) "append" p2) [e] [] p3) none pos.line X.env = pure false := by rfl) :
    DS fr K X (.Expr (.Call (.Attribute (.Name x p1) "append" p2) [e] [] p3) pos) (tDrop (tBM K "list" rAppend (tVar i) (tCons te tNil))) (sApp i fe) :=
  ⟨he.k, ps_expr (app_pe (i := i) he.k (pa_cons he.p pa_nil hs) (pe_var hN hv hd hcd) hbase hfew hline hs) hsw, app_sound he.s⟩
theorem ds_appPop (i l : Nat) {x y : Str} {q1 q2 q3 : Pos} (he : DE K X e te fe) (hN : X.N[i]? = some x := by rfl) (hv : Vis X.env.scope x := by first | exact Or.inl rfl | exact Or.inr (Or.inl rfl) | exact Or.inr (Or.inr rfl)) (hd : (x == ("__debug__" : Str)) = false := by decide)
    (hcd : (x == ("__classdict__" : Str)) = false := by decide) (hN' : X.N[l]? = some y := by rfl) (hv' : Vis X.env.scope y := by first | exact Or.inl rfl | exact Or.inr (Or.inl rfl) | exact Or.inr (Or.inr rfl)) (hd' : (y == ("__debug__" : Str)) = false := by decide)
    (hcd' : (y == ("__classdict__" : Str)) = false := by decide) (hbase : attributeBase (.Name x p1) "append" X.env (eval (.Name x p1) X.env) = eval (.Name x p1) X.env := by rfl)
    (hbase' : attributeBase (.Name y q1) "pop" X.env (eval (.Name y q1) X.env) = eval (.Name y q1) X.env := by rfl)
    (hfew : ((backTo p3 (starEach [.Call (.Attribute (.Name y q1) "pop" q2) [e] [] q3] X.env)).all (fun x => !x.1) && (backToKw p3 (keywordEach [] X.env)).all (fun x => x.1.isSome)
      && decide ([Expr.Call (.Attribute (.Name y q1) "pop" q2) [e] [] q3].length + ([] : List Keyword).length + (if ([] : List Keyword).isEmpty then 0 else 1) < 30)) = true := by rfl)
    (hfew' : ((backTo q3 (starEach [e] X.env)).all (fun x => !x.1) && (backToKw q3 (keywordEach [] X.env)).all (fun x => x.1.isSome)
      && decide ([e].length + ([] : List Keyword).length + (if ([] : List Keyword).isEmpty then 0 else 1) < 30)) = true := by rfl)
    (hline : (p2.endLine == p3.line) = true := by rfl) (hline' : (q2.endLine == q3.line) = true := by rfl) (hs' : starEach [e] X.env = (false, eval e X.env) :: starEach [] X.env := by rfl)
    (hs : starEach [.Call (.Attribute (.Name y q1) "pop" q2) [e] [] q3] X.env = (false, eval (.Call (.Attribute (.Name y q1) "pop" q2) [e] [] q3) X.env) :: starEach [] X.env := by rfl)
    (hsw : swapsWith (.Call (.Attribute (.Name x p1) "append" p2) [.Call (.Attribute (.Name y q1) "pop" q2) [e] [] q3] [] p3) none pos.line X.env = pure false := by rfl) :
    DS fr K X (.Expr (.Call (.Attribute (.Name x p1) "append" p2) [.Call (.Attribute (.Name y q1) "pop" q2) [e] [] q3] [] p3) pos) (tDrop (tBM K "list" rAppend (tVar i) (tCons (tBM K "list" rPopAt (tVar l) (tCons te tNil)) tNil))) (sAppPop i l fe) :=
  by
  obtain rfl := he.k
  exact ⟨rfl, ps_expr (app_pe (i := i) rfl (pa_cons (pe_bm PySem.F.plainAttrs_list PySem.F.slot_list_pop PySem.F.type_list_pop mt_popAt (pe_var hN' hv' hd' hcd') (pa_cons he.p pa_nil hs') hbase' hfew' hline' hs' rfl) pa_nil hs) (pe_var hN hv hd hcd) hbase hfew hline hs) hsw, apop_sound he.s⟩
end
end DL

set_option Elab.async false
set_option linter.all false
set_option maxRecDepth 100000
set_option maxHeartbeats 4000000
namespace DL
open PySem PySem.Spec PyProof.Rows L2

/-! ### list(range(..)), tuple(range(..)) -/
theorem repL_rg {K : Fr} {F : Hp} (a b : Int) : RepL K F (rgV a b) (rngD a (b - a).toNat) := by
  unfold rgV rngD
  have : ∀ l : List Nat, RepL K F (l.map fun i => V.int (a + (i : Nat))) (l.map fun (i : Nat) => D.int (a + i)) := fun l => by
    induction l with
    | nil => exact .nil
    | cons x r ih => exact .cons (.int _) ih
  exact this _
@[simp] def wRgL (mk : List D → D) : List D → (D → Prop) → Prop
  | [.int n], Φ => (-(2 ^ 62) ≤ n ∧ n ≤ 2 ^ 24) ∧ Φ (mk (rngD 0 n.toNat))
  | [.int i, .int j], Φ => (0 ≤ i ∧ i ≤ 2 ^ 24 ∧ 0 ≤ j ∧ j ≤ 2 ^ 24) ∧ Φ (mk (rngD i (j - i).toNat))
  | _, _ => False
@[simp] def wRg (mk : List D → D) (h : WA) : WE := fun Γ Φ => h Γ fun ds => wRgL mk ds Φ
section
variable {K : Fr} {X : Cx} {e a b o : Expr} {es : List Expr} {t ta tb te to : TE} {f fa fb fe fo : WE} {th : TA} {h : WA} {pos p p1 p2 p3 : Pos}
theorem df_listRg1 (hc : X.calm = true) (hm : X.mg "list" = none) (hm2 : X.mg "range" = none) (ha : DE K X a ta fa) (hg : Gl X "list" := by rfl) (hg2 : Gl X "range" := by rfl) (hs : starEach [a] X.env = (false, eval a X.env) :: starEach [] X.env := by rfl)
    (hs2 : starEach [.Call (.Name "range" p1) [a] [] p2] X.env = (false, eval (.Call (.Name "range" p1) [a] [] p2) X.env) :: starEach [] X.env := by rfl) :
    DF K X (.Call (.Name "list" p) [.Call (.Name "range" p1) [a] [] p2] [] pos) (tLstRg (tRg1 ta)) (wRg .lst (wCons fa wNil)) := by
  obtain ⟨rfl, pt, q⟩ := ha
  refine ⟨rfl, pe_listRg hc hg hm (prg_1 hg2 hm2 pt hs) hs2, fun B HB F Γ σ H Q Φ j w k => q B HB F Γ σ H _ _ j w fun v d F' H' g r φ => ?_⟩
  cases d with
  | int n =>
    obtain ⟨φ1, φ⟩ := φ
    refine ⟨n, r.int_inv, ⟨by omega, by omega, by omega, by omega, by omega⟩, fun q n1 => ?_⟩
    refine k q _ _ F' _ (g.trans (.newH g.fh n1)) (g.fh.free n1) (g.hh.free n1) upd_same (.lst (repL_rg 0 n)) ?_
    rw [Int.sub_zero]; exact φ
  | _ => exact φ.elim
theorem df_listRg2 (hc : X.calm = true) (hm : X.mg "list" = none) (hm2 : X.mg "range" = none) (ha : DE K X a ta fa) (hb : DE K X b tb fb) (hg : Gl X "list" := by rfl) (hg2 : Gl X "range" := by rfl) (hs : starEach [a, b] X.env = (false, eval a X.env) :: starEach [b] X.env := by rfl) (hsb : starEach [b] X.env = (false, eval b X.env) :: starEach [] X.env := by rfl)
    (hp : (backTo p2 (starEach [b] X.env)).any (·.1) = false := by rfl)
    (hs2 : starEach [.Call (.Name "range" p1) [a, b] [] p2] X.env = (false, eval (.Call (.Name "range" p1) [a, b] [] p2) X.env) :: starEach [] X.env := by rfl) :
    DF K X (.Call (.Name "list" p) [.Call (.Name "range" p1) [a, b] [] p2] [] pos) (tLstRg (tRg2 ta tb)) (wRg .lst (wCons fa (wCons fb wNil))) := by
  obtain ⟨rfl, pt, q⟩ := ha
  obtain ⟨_, pt', q'⟩ := hb
  refine ⟨rfl, pe_listRg hc hg hm (prg_2 hg2 hm2 pt pt' hs hsb hp) hs2, fun B HB F Γ σ H Q Φ j w k => q B HB F Γ σ H _ _ j w fun v d F1 H1 g1 r1 φ => ?_⟩
  refine q' B HB F1 Γ σ H1 _ _ (j.grow g1) φ fun v2 d2 F2 H2 g2 r2 φ => ?_
  cases d with
  | int i =>
    cases d2 with
    | int i2 =>
      obtain ⟨φ1, φ⟩ := φ
      refine ⟨i, i2, r1.int_inv, r2.int_inv, ⟨by omega, by omega, by omega, by omega, by omega⟩, fun q n1 => ?_⟩
      have g := g1.trans g2
      exact k q _ _ F2 _ (g.trans (.newH g.fh n1)) (g.fh.free n1) (g.hh.free n1) upd_same (.lst (repL_rg i i2)) φ
    | _ => exact φ.elim
  | _ => exact φ.elim
theorem de_tupRg1 (hc : X.calm = true) (hm : X.mg "tuple" = none) (hm2 : X.mg "range" = none) (ha : DE K X a ta fa) (hg : Gl X "tuple" := by rfl) (hg2 : Gl X "range" := by rfl) (hs : starEach [a] X.env = (false, eval a X.env) :: starEach [] X.env := by rfl)
    (hs2 : starEach [.Call (.Name "range" p1) [a] [] p2] X.env = (false, eval (.Call (.Name "range" p1) [a] [] p2) X.env) :: starEach [] X.env := by rfl) :
    DE K X (.Call (.Name "tuple" p) [.Call (.Name "range" p1) [a] [] p2] [] pos) (tTupRg (tRg1 ta)) (wRg .tup (wCons fa wNil)) := by
  obtain ⟨rfl, pt, q⟩ := ha
  refine ⟨rfl, pe_tupRg hc hg hm (prg_1 hg2 hm2 pt hs) hs2, fun B HB F Γ σ H Q Φ j w k => q B HB F Γ σ H _ _ j w fun v d F' H' g r φ => ?_⟩
  cases d with
  | int n =>
    obtain ⟨φ1, φ⟩ := φ
    refine ⟨n, r.int_inv, ⟨by omega, by omega, by omega, by omega, by omega⟩, fun q n1 => ?_⟩
    have g2 := Grow.new (p := q) (o := .tup (rgV 0 n)) g.fh n1
    refine k _ _ _ _ (g.trans g2) (.ob upd_same (.tup (repL_rg 0 n))) ?_
    rw [Int.sub_zero]; exact φ
  | _ => exact φ.elim
/-! ### xs.index(y) -/
@[simp] def wIdx (fo fe : WE) : WE := fun Γ Φ => fo Γ fun x => ∃ xs, x = .lst xs ∧ fe Γ fun y => (shp 9 (.lst xs) = true ∧ shp 9 y = true) ∧ ∃ (j : Nat) (z : D), xs[j]? = some z ∧ deq z y = true ∧ (∀ (m : Nat) (z' : D), m < j → xs[m]? = some z' → deq z' y = false) ∧ Φ (.int (j : Nat))
theorem de_index {k : Nat} (hr : Room k X.A) (ho : DB K X o to fo) (he : DB K X e te fe) (hbase : attributeBase o "index" X.env (eval o X.env) = eval o X.env := by rfl)
    (hfew : ((backTo pos (starEach [e] X.env)).all (fun x => !x.1) && (backToKw pos (keywordEach [] X.env)).all (fun x => x.1.isSome)
      && decide ([e].length + ([] : List Keyword).length + (if ([] : List Keyword).isEmpty then 0 else 1) < 30)) = true := by rfl)
    (hline : (p1.endLine == pos.line) = true := by rfl) (hs : starEach [e] X.env = (false, eval e X.env) :: starEach [] X.env := by rfl) :
    DE K X (.Call (.Attribute o "index" p1) [e] [] pos) (tBM K "list" (rIndexD K) to (tCons te tNil)) (wIdx fo fe) := by
  obtain ⟨rfl, po, qo⟩ := ho
  obtain ⟨_, pe, qe⟩ := he
  refine ⟨rfl, pe_bm PySem.F.plainAttrs_list PySem.F.slot_list_index PySem.F.type_list_index (mt_indexD (room65 hr)) po (pa_cons pe pa_nil hs) hbase hfew hline hs rfl, fun B HB F Γ σ H Q Φ j w k => ?_⟩
  refine qo B HB F Γ σ H _ _ j w fun v d F1 H1 g1 r1 φ => ?_
  obtain ⟨xs, rfl, φ⟩ := φ
  obtain ⟨a, us, rfl, ea, ra⟩ := r1.lst g1.fh
  refine ⟨.inl ⟨rfl, _, .of ea⟩, ?_⟩
  refine qe B HB F1 Γ σ H1 _ _ (j.grow g1) φ fun v2 y F2 H2 g2 r2 φ => ?_
  obtain ⟨⟨w1, w2⟩, jj, z, hz, hd, hm, φ⟩ := φ
  have rx := (r1.grow g2).rep g2.fh
  refine ⟨a, v2, py y, pys xs, jj, py z, rfl, rfl, by have := dp_of rx w1; simpa only [py] using this, dp_of (r2.rep g2.fh) w2, by have := shp_shaped w1; simpa only [py] using this, shp_shaped w2, ?_, hd, fun m z' h1 h2 => ?_, k _ _ F2 H2 (g1.trans g2) (.int _) φ⟩
  · rw [pys_map, List.getElem?_map, hz]; rfl
  · rw [pys_map, List.getElem?_map] at h2
    cases q : xs[m]? with
    | none => rw [q] at h2; cases h2
    | some z2 => rw [q] at h2; cases h2; exact hm m z2 h1 q
end
/-! ### min, max of a tuple of ints -/
section
variable {prog : Program} {w : World} {A : Around} {E : Value → Shared → Prop} {s : Shared} {l : Addr}
theorem tup_fp {vs : Array Value} (hl : s.heap.IsTuple l vs) (o : Obj) : ∀ b ∈ [s.heap.objs.size, l], b < (s.heap.push o).objs.size := by
  intro b hb
  have hlt : l < s.heap.objs.size := by obtain ⟨_, e, _⟩ := hl; exact Heap.lt_size e
  rw [Heap.size_push]
  rcases List.mem_cons.mp hb with rfl | hb
  · exact Nat.lt_succ_self _
  · rcases List.mem_cons.mp hb with rfl | hb
    · exact Nat.lt_succ_of_lt hlt
    · cases hb
theorem minT_raw {its : List Value} {ns : List Int} {Q : Value → Shared → Prop} (hh : A.handled = none) (hl : s.heap.IsTuple l its.toArray) (hi : IntsAre its ns) (hne : 0 < ns.length)
    (h : ∀ h' tk M t', (∀ b o, s.heap.get? b = some o → h'.get? b = some o) → M ∈ ns → (∀ a, a ∈ ns → M ≤ a) → Q (.int M t') { s with heap := h', toks := tk }) : wpAny (model prog w) A (call (.builtin "min") [.ref l]) Q E s := by
  obtain ⟨xs, e⟩ := hi.allInts.items
  have hn : numsOf (intItems xs).toList = ns := by rw [← e]; exact hi.numsOf
  rw [nums_intItems] at hn
  subst hn
  rw [e] at hl
  have hsz : 0 < xs.size := by simpa using hne
  have hlt : l < s.heap.objs.size := by obtain ⟨_, e, _⟩ := hl; exact Heap.lt_size e
  refine call_min_walk (wpAny_pyIter_tuple hl ?_)
  refine ⟨_, [_, l], [_], _, _, _, _, rfl, Walks.tuple (A := A.in1) hh _ l (Nat.ne_of_lt hlt) (intItems xs), ⟨⟨_, Heap.get?_push_size _ rfl, rfl, rfl⟩, hl.push _⟩, tup_fp hl _, by simpa [intItems] using hsz, CmpOf.ints_lt (numAt xs) (fun _ _ => intItems_at), fun v h' tk hP hk => ?_⟩
  have hold : ∀ b o, s.heap.get? b = some o → h'.get? b = some o := fun b o e => hk b o (fun hm => by have := Heap.lt_size e; rw [List.mem_singleton.mp hm] at this; exact Nat.lt_irrefl _ this) (Heap.get?_push_of_some _ e)
  have hv : (intItems xs)[argBest (fun i j => decide (numAt xs i < numAt xs j)) (xs.size - 1)]? = some v := by simpa [intItems] using hP
  obtain ⟨t, rfl⟩ := intItems_at hv
  obtain ⟨h1, h2⟩ := argBest_lt (numAt xs) (xs.size - 1)
  refine h h' tk _ t hold ?_ fun a ha => ?_
  · rw [numAt_eq]; exact PySem.getD_mem (by rw [List.length_map, Array.length_toList]; omega)
  · obtain ⟨j, hj, rfl⟩ := mem_getD ha
    rw [List.length_map, Array.length_toList] at hj
    rw [← numAt_eq]; exact h2 j (by omega)
theorem maxT_raw {its : List Value} {ns : List Int} {Q : Value → Shared → Prop} (hh : A.handled = none) (hl : s.heap.IsTuple l its.toArray) (hi : IntsAre its ns) (hne : 0 < ns.length)
    (h : ∀ h' tk M t', (∀ b o, s.heap.get? b = some o → h'.get? b = some o) → M ∈ ns → (∀ a, a ∈ ns → a ≤ M) → Q (.int M t') { s with heap := h', toks := tk }) : wpAny (model prog w) A (call (.builtin "max") [.ref l]) Q E s := by
  obtain ⟨xs, e⟩ := hi.allInts.items
  have hn : numsOf (intItems xs).toList = ns := by rw [← e]; exact hi.numsOf
  rw [nums_intItems] at hn
  subst hn
  rw [e] at hl
  have hsz : 0 < xs.size := by simpa using hne
  have hlt : l < s.heap.objs.size := by obtain ⟨_, e, _⟩ := hl; exact Heap.lt_size e
  refine call_max_walk (wpAny_pyIter_tuple hl ?_)
  refine ⟨_, [_, l], [_], _, _, _, _, rfl, Walks.tuple (A := A.in1) hh _ l (Nat.ne_of_lt hlt) (intItems xs), ⟨⟨_, Heap.get?_push_size _ rfl, rfl, rfl⟩, hl.push _⟩, tup_fp hl _, by simpa [intItems] using hsz, CmpOf.ints_gt (numAt xs) (fun _ _ => intItems_at), fun v h' tk hP hk => ?_⟩
  have hold : ∀ b o, s.heap.get? b = some o → h'.get? b = some o := fun b o e => hk b o (fun hm => by have := Heap.lt_size e; rw [List.mem_singleton.mp hm] at this; exact Nat.lt_irrefl _ this) (Heap.get?_push_of_some _ e)
  have hv : (intItems xs)[argBest (fun i j => decide (numAt xs i > numAt xs j)) (xs.size - 1)]? = some v := by simpa [intItems] using hP
  obtain ⟨t, rfl⟩ := intItems_at hv
  obtain ⟨h1, h2⟩ := argBest_gt (numAt xs) (xs.size - 1)
  refine h h' tk _ t hold ?_ fun a ha => ?_
  · rw [numAt_eq]; exact PySem.getD_mem (by rw [List.length_map, Array.length_toList]; omega)
  · obtain ⟨j, hj, rfl⟩ := mem_getD ha
    rw [List.length_map, Array.length_toList] at hj
    rw [← numAt_eq]; exact h2 j (by omega)
end
def rMinA (K : Fr) : List V → Hp → VK → Prop := fun vs H Q => ∃ (a : Addr) (ns : List Int), vs = [V.ref a] ∧ (SqL K H a (ns.map V.int) ∨ SqT K H a (ns.map V.int)) ∧ 0 < ns.length ∧ ∀ m, m ∈ ns → (∀ y, y ∈ ns → m ≤ y) → Q (.int m) H
def rMaxA (K : Fr) : List V → Hp → VK → Prop := fun vs H Q => ∃ (a : Addr) (ns : List Int), vs = [V.ref a] ∧ (SqL K H a (ns.map V.int) ∨ SqT K H a (ns.map V.int)) ∧ 0 < ns.length ∧ ∀ m, m ∈ ns → (∀ y, y ∈ ns → y ≤ m) → Q (.int m) H
theorem c_minA {K : Fr} {X : Cx} (hc : X.calm = true) (hk : X.K = K) : CallR X (.builtin "min") (rMinA K) := by
  cases hk
  intro pins s σ H vs us Q I r h
  obtain ⟨a, ns, rfl, hs, hne, q⟩ := h
  rcases hs with hs | hs
  · exact cr_min hc pins s σ H _ us Q I r ⟨a, ns, rfl, hs, hne, q⟩
  · obtain ⟨its, rv, hl, _⟩ := I.tuple hs
    rw [Vals.ref1 r]
    exact minT_raw (I.ok.hd hc) hl rv.ints hne fun h' tk m t' hk h1 h2 => ⟨.int _, H, I.kept hk, ⟨_, rfl⟩, q m h1 h2⟩
theorem c_maxA {K : Fr} {X : Cx} (hc : X.calm = true) (hk : X.K = K) : CallR X (.builtin "max") (rMaxA K) := by
  cases hk
  intro pins s σ H vs us Q I r h
  obtain ⟨a, ns, rfl, hs, hne, q⟩ := h
  rcases hs with hs | hs
  · exact cr_max hc pins s σ H _ us Q I r ⟨a, ns, rfl, hs, hne, q⟩
  · obtain ⟨its, rv, hl, _⟩ := I.tuple hs
    rw [Vals.ref1 r]
    exact maxT_raw (I.ok.hd hc) hl rv.ints hne fun h' tk m t' hk h1 h2 => ⟨.int _, H, I.kept hk, ⟨_, rfl⟩, q m h1 h2⟩
@[simp] def wIntsA (w : List Int → (D → Prop) → Prop) : WC
  | [.lst ds], Φ => ∃ ns, ints? ds = some ns ∧ w ns Φ
  | [.tup ds], Φ => ∃ ns, ints? ds = some ns ∧ w ns Φ
  | _, _ => False
theorem intsAV {K : Fr} {F H : Hp} {vs : List V} {ds : List D} {w : List Int → (D → Prop) → Prop} {Φ : D → Prop} (s : Same F H) (r : BRepL K F H vs ds) (h : wIntsA w ds Φ) : ∃ a ns, vs = [.ref a] ∧ (SqL K H a (ns.map V.int) ∨ SqT K H a (ns.map V.int)) ∧ w ns Φ := by
  match ds, h with
  | [.lst xs], h =>
    cases r with
    | cons r1 r2 =>
      cases r2
      obtain ⟨a, us, rfl, ea, ra⟩ := r1.lst s
      obtain ⟨ns, h1, h2⟩ := h
      rw [ints_some h1] at ra
      rw [ra.ints] at ea
      exact ⟨a, ns, rfl, .inl (.of ea), h2⟩
  | [.tup xs], h =>
    cases r with
    | cons r1 r2 =>
      cases r2
      obtain ⟨a, us, rfl, ea, ra⟩ := r1.tup s
      obtain ⟨ns, h1, h2⟩ := h
      rw [ints_some h1] at ra
      rw [ra.ints] at ea
      exact ⟨a, ns, rfl, .inr (.of ea), h2⟩
@[simp] def wMaxA : WC := wIntsA fun ns Φ => 0 < ns.length ∧ ∀ m, m ∈ ns → (∀ y, y ∈ ns → y ≤ m) → Φ (.int m)
@[simp] def wMinA : WC := wIntsA fun ns Φ => 0 < ns.length ∧ ∀ m, m ∈ ns → (∀ y, y ∈ ns → m ≤ y) → Φ (.int m)
theorem d_maxA {K : Fr} : DCall K (rMaxA K) wMaxA := by
  intro F H vs ds Q Φ s r w k
  obtain ⟨a, ns, rfl, h, w1, w2⟩ := intsAV s r w
  exact ⟨a, ns, rfl, h, w1, fun m h1 h2 => k_same s k (.int _) (w2 m h1 h2)⟩
theorem d_minA {K : Fr} : DCall K (rMinA K) wMinA := by
  intro F H vs ds Q Φ s r w k
  obtain ⟨a, ns, rfl, h, w1, w2⟩ := intsAV s r w
  exact ⟨a, ns, rfl, h, w1, fun m h1 h2 => k_same s k (.int _) (w2 m h1 h2)⟩
/-! ### slices of tuples -/
@[simp] def slT : D → Option Int → Option Int → (D → Prop) → Prop
  | .tup xs, l, u, Φ => Φ (.tup (cutD xs l u))
  | _, _, _, _ => False
section
variable {K : Fr} {X : Cx} {a : Expr} {lo hi : Option Expr} {ta : TE} {tl tu : TO} {fa : WE} {fl fh : WO} {pos p2 : Pos}
theorem de_sliceT (ha : DB K X a ta fa) (hl : DO K X lo tl fl) (hh : DO K X hi tu fh) : DE K X (.Subscript a (.Slice lo hi none p2) pos) (tSl (rSlA K) ta tl tu) (wSl slT fa fl fh) := by
  obtain ⟨rfl, p, q⟩ := ha
  obtain ⟨_, pl, ql⟩ := hl
  obtain ⟨_, ph, qh⟩ := hh
  refine ⟨rfl, pe_slice sl_tupA p pl ph, fun B HB F Γ σ H Q Φ j w k => q B HB F Γ σ H _ _ j w fun v d F1 H1 g1 r φ => ?_⟩
  refine ql B HB F1 Γ σ H1 _ _ (j.grow g1) φ fun l F2 H2 g2 φ2 => ?_
  refine qh B HB F2 Γ σ H2 _ _ ((j.grow g1).grow g2) φ2 fun u F3 H3 g3 φ3 => ?_
  have g := (g1.trans g2).trans g3
  have r3 := (r.grow g2).grow g3
  cases d with
  | tup xs =>
    obtain ⟨b, us, rfl, ea, ra⟩ := r3.tup g.fh
    refine ⟨b, us, rfl, .of ea, fun e => ?_, fun _ => k_new g.fh (fun v z F' H' g' r' φ' => k v z F' H' (g.trans g') r' φ') (.tup (ra.cut l u)) φ3⟩
    have e2 : cutD xs l u = xs := by
      unfold cutD
      rw [ra.length] at e
      rw [e.1, e.2]
      simp
    rw [slT, e2] at φ3
    rcases r3 with r3 | ⟨_, _, _, _, _, r3⟩
    · exact k _ _ F3 H3 g r3 φ3
    · cases r3
  | _ => exact φ3.elim
end
end DL

set_option Elab.async false
set_option linter.all false
set_option maxRecDepth 100000
set_option maxHeartbeats 4000000
namespace DL
open PySem PySem.Spec PyProof.Rows L2

/-! ### comprehensions over a name's own list -/
structure WkB (K : Fr) (G F : Hp) (Jt : It) (ds : List D) : Prop where
  stop : ∀ i H, Same G H → ds.length ≤ i → Jt.stop i H
  go : ∀ i H, Same G H → i < ds.length → Jt.go i H
  yld : ∀ i F1 H x H', Same F F1 → Same F1 H → Same G H → i < ds.length → Jt.yld i H x H' → ∃ d F2, ds[i]? = some d ∧ Grow F1 H F2 H' ∧ Rep K F2 x d
def SIB (K : Fr) (t : TI) (f : WA) : Prop := ∀ (B HB F : Hp) (Γ : GE) (σ : L2.St) (H : Hp) (R : It → Hp → Prop) (Φ : List D → Prop), J K B HB F Γ σ H → f Γ Φ → (∀ Jt ds F' H', Grow F H F' H' → WkB K H' F' Jt ds → Φ ds → R Jt H') → t σ H R
structure DIB (K : Fr) (X : Cx) (tg it : Expr) (t : TI) (f : WA) : Prop where
  k : X.K = K
  p : PI X tg it t
  s : SIB K t f
theorem wkB_list {K : Fr} {G F : Hp} {a : Addr} {vs : List V} {ds : List D} (h : SqL K G a vs) (r : RepL K F vs ds) : WkB K G F (Itl K a) ds := by
  refine ⟨fun i H s hi => ⟨vs, s.seq h, by rw [r.length]; exact hi⟩, fun i H s hi => ?_, fun i F1 H x H' s1 s2 s3 hi y => ?_⟩
  · have hv : i < vs.length := by rw [r.length]; exact hi
    exact ⟨vs, vs[i], s.seq h, List.getElem?_eq_getElem hv⟩
  · obtain ⟨e, y⟩ := y
    subst e
    obtain ⟨d, e1, e2⟩ := r.getV (y vs (s3.seq h))
    exact ⟨d, F1, e1, .refl s2, e2.mono s1⟩
theorem dib_list {K : Fr} {X : Cx} {tg e : Expr} {t : TE} {f : WE} (he : DB K X e t f) : DIB K X tg e (iList K t) (wItL f) := by
  obtain ⟨rfl, p, q⟩ := he
  refine ⟨rfl, pi_list p, fun B HB F Γ σ H R Φ j w k => q B HB F Γ σ H _ _ j w fun v d F' H' g r φ => ?_⟩
  cases d with
  | lst ds =>
    obtain ⟨a, vs, rfl, e, rl⟩ := r.lst g.fh
    exact ⟨a, rfl, ⟨vs, .of e⟩, k _ ds F' H' g (wkB_list (.of e) rl) φ⟩
  | scr ns =>
    obtain ⟨a, rfl, e⟩ := r.scr g.fh
    exact ⟨a, rfl, ⟨_, e⟩, k _ _ F' H' g (wkB_list e (RepL.ofInts ns)) φ⟩
  | _ => exact φ.elim
section
variable {K : Fr} {X : Cx} {elt tg iter : Expr} {ifs : List Expr} {scope : Scope} {own : List (Str × Nat)} {pos : Pos} {wi : TI} {g : TG} {tt : TT} {te : TE} {fi : WA} {fg : WG} {ft : WT} {fe : WE} {S : List Nat}
theorem lcB_sound {K : Fr} {vs : List Nat} (hi : SIB K wi fi) (hg : SG K S g fg) (ht : STt K tt ft) (he : SE K te fe) (hS : ∀ i ∈ S, i ∈ vs) : SF K (tLc wi g tt te vs) (wLc fi fg ft fe vs) := by
  intro B HB F Γ σ H Q Φ j w k
  refine hi B HB F Γ σ H _ _ j w fun Jt ds F1 H1 g1 wk φ => ?_
  intro D nD
  have j1 := j.grow g1
  have jw := j1.wipe vs
  refine ⟨fun i m H2 => ∃ F2 us acc, m = ds.length - i ∧ i ≤ ds.length ∧ Grow F1 H1 F2 H2 ∧ F2 D = none ∧ H2 D = some (.lst us) ∧ RepL K F2 us acc ∧ lcGo fg ft fe (wipeG Γ vs) (ds.drop i) acc fun ys => Φ (.lst ys),
    ⟨ds.length, F1, [], [], rfl, Nat.zero_le _, .newH j1.fh nD, j1.fh.free nD, upd_same, .nil, φ⟩, ?_⟩
  rintro i m H2 ⟨F2, us, acc, rfl, hi2, g2, nF, eD, ra, w2⟩
  by_cases hlt : i < ds.length
  · have s12 : Same F1 F2 := g2.ff
    refine .inr ⟨wk.go i H2 g2.hh hlt, fun H' => ∃ F3 us' acc', Grow F1 H1 F3 H' ∧ F3 D = none ∧ H' D = some (.lst us') ∧ RepL K F3 us' acc' ∧ lcGo fg ft fe (wipeG Γ vs) (ds.drop (i + 1)) acc' fun ys => Φ (.lst ys),
      fun H' ⟨F3, us', acc', z⟩ => ⟨ds.length - (i + 1), by omega, F3, us', acc', rfl, hlt, z⟩, fun x H' y => ?_⟩
    obtain ⟨d, F3, ed, g3, r3⟩ := wk.yld i F2 H2 x H' s12 g2.fh g2.hh hlt y
    have edrop : ds.drop i = d :: ds.drop (i + 1) := by
      have := List.getElem?_eq_some_iff.mp ed
      obtain ⟨h1, h2⟩ := this
      rw [← h2]; exact List.drop_eq_getElem_cons h1
    rw [edrop] at w2
    have g13 := g2.trans g3
    have nF3 : F3 D = none := g3.ow D (by rw [eD]; simp) nF
    have eD3 : H' D = some (.lst us) := g3.hh _ _ eD
    refine hg B HB F3 (wipeG Γ vs) (wipe σ vs) H' x d _ _ (jw.grow g13) r3 w2 fun Γ4 σ4 j4 c4 w4 => ?_
    refine ⟨(c4 vs hS).trans (wipe_wipe σ vs), ?_⟩
    refine ht B HB F3 Γ4 σ4 H' _ _ j4 w4 fun b F5 H5 g5 w5 => ?_
    have nF5 : F5 D = none := g5.ow D (by rw [eD3]; simp) nF3
    have eD5 : H5 D = some (.lst us) := g5.hh _ _ eD3
    cases b with
    | false => exact ⟨F5, us, acc, g13.trans g5, nF5, eD5, (ra.mono g3.ff).mono g5.ff, w5⟩
    | true =>
      refine he B HB F5 Γ4 σ4 H5 _ _ (j4.grow g5) w5 fun v y F6 H6 g6 r6 w6 => ?_
      have nF6 : F6 D = none := g6.ow D (by rw [eD5]; simp) nF5
      have eD6 : H6 D = some (.lst us) := g6.hh _ _ eD5
      have ra6 := ((ra.mono g3.ff).mono g5.ff).mono g6.ff
      refine ⟨us, eD6, by rw [ra6.length]; exact w6.1, F6, _, _, ((g13.trans g5).trans g6).updNew nD nF6, nF6, upd_same, ra6.append (.cons r6 .nil), w6.2⟩
  · have e : i = ds.length := by omega
    subst e
    rw [List.drop_length] at w2
    refine .inl ⟨wk.stop _ H2 g2.hh (Nat.le_refl _), ?_⟩
    exact k D _ _ F2 H2 (g1.trans g2) nF (g1.hh.free nD) eD (.lst ra) w2
theorem df_lcB (hc : X.calm = true) (hN : X.N.Nodup) (hi : DIB K X tg iter wi fi) (ok : BlkOk X.N X.env.scope scope own)
    (hg : ∀ (s : Shared) (H : Hp) (C : Addr) (cl : List (Str × Addr)) (fp : List Addr), DG K (X.blk s H scope (compEnvC scope cl C X.env) fp) tg S g fg)
    (ht : ∀ (s : Shared) (H : Hp) (C : Addr) (cl : List (Str × Addr)) (fp : List Addr), DTs K (X.blk s H scope (compEnvC scope cl C X.env) fp) ifs tt ft)
    (he : ∀ (s : Shared) (H : Hp) (C : Addr) (cl : List (Str × Addr)) (fp : List Addr), DE K (X.blk s H scope (compEnvC scope cl C X.env) fp) elt te fe)
    (hS : ∀ i ∈ S, i ∈ own.map (·.2) := by decide) (hs : ∀ x, foldedSetIterable iter X.env x = pure x := by intro _; rfl) : DF K X (.ListComp elt [⟨tg, iter, ifs, 0⟩] scope pos) (tLc wi g tt te (own.map (·.2))) (wLc fi fg ft fe (own.map (·.2))) := by
  refine ⟨hi.k, pe_lc hc hN hi.p ok (fun s H C cl fp => (hg s H C cl fp).p) (fun s H C cl fp => (ht s H C cl fp).p) (fun s H C cl fp => (he s H C cl fp).p) hs, ?_⟩
  exact lcB_sound hi.s (hg ({} : Shared) (fun _ => none) 0 [] []).s (ht ({} : Shared) (fun _ => none) 0 [] []).s (he ({} : Shared) (fun _ => none) 0 [] []).s hS
end
section
variable {K : Fr} {X : Cx} {fr : Bool} {elt tg iter : Expr} {ifs : List Expr} {scope : Scope} {own : List (Str × Nat)} {pos : Pos} {wi : TI} {gt : TG} {tt : TT} {tel : TE} {fi : WA} {fg : WG} {ft : WT} {fel : WE} {S : List Nat}
theorem lcB_ps (i : Nat) {x : Str} {p' p2 : Pos} (hc : X.calm = true) (hN : X.N.Nodup) (hi : DIB K X tg iter wi fi) (ok : BlkOk X.N X.env.scope scope own)
    (hg : ∀ (s : Shared) (H : Hp) (C : Addr) (cl : List (Str × Addr)) (fp : List Addr), DG K (X.blk s H scope (compEnvC scope cl C X.env) fp) tg S gt fg)
    (ht : ∀ (s : Shared) (H : Hp) (C : Addr) (cl : List (Str × Addr)) (fp : List Addr), DTs K (X.blk s H scope (compEnvC scope cl C X.env) fp) ifs tt ft)
    (he : ∀ (s : Shared) (H : Hp) (C : Addr) (cl : List (Str × Addr)) (fp : List Addr), DE K (X.blk s H scope (compEnvC scope cl C X.env) fp) elt tel fel)
    (hy : X.N[i]? = some x) (hyl : X.env.scope.names.lookup x = some .local) (hk : X.env.scope.kind = .function) (hl : (p'.line == p2.line) = true)
    (hn : (scope.names.any fun (n, k) => n == x && (k == .local || k == .cell)) = false) (hs : ∀ y, foldedSetIterable iter X.env y = pure y) :
    PS X (.Assign [.Name x p'] (.ListComp elt [⟨tg, iter, ifs, 0⟩] scope p2) pos) (tAsg (tLc wi gt tt tel (own.map (·.2))) (gName i)) :=
  ps_setLc hc hN hy hyl (sw_true hk hyl hl hn) hi.p ok (fun s H C cl fp => (hg s H C cl fp).p) (fun s H C cl fp => (ht s H C cl fp).p) (fun s H C cl fp => (he s H C cl fp).p) hs
theorem ds_setLcB (i : Nat) {x : Str} {p' p2 : Pos} (hc : X.calm = true) (hN : X.N.Nodup) (hi : DIB K X tg iter wi fi) (ok : BlkOk X.N X.env.scope scope own)
    (hg : ∀ (s : Shared) (H : Hp) (C : Addr) (cl : List (Str × Addr)) (fp : List Addr), DG K (X.blk s H scope (compEnvC scope cl C X.env) fp) tg S gt fg)
    (ht : ∀ (s : Shared) (H : Hp) (C : Addr) (cl : List (Str × Addr)) (fp : List Addr), DTs K (X.blk s H scope (compEnvC scope cl C X.env) fp) ifs tt ft)
    (he : ∀ (s : Shared) (H : Hp) (C : Addr) (cl : List (Str × Addr)) (fp : List Addr), DE K (X.blk s H scope (compEnvC scope cl C X.env) fp) elt tel fel)
    (hy : X.N[i]? = some x := by rfl) (hyl : X.env.scope.names.lookup x = some .local := by rfl) (hk : X.env.scope.kind = .function := by rfl) (hl : (p'.line == p2.line) = true := by rfl)
    (hn : (scope.names.any fun (n, k) => n == x && (k == .local || k == .cell)) = false := by decide +kernel) (hS : ∀ i ∈ S, i ∈ own.map (·.2) := by decide) (hs : ∀ y, foldedSetIterable iter X.env y = pure y := by intro _; rfl) :
    DS fr K X (.Assign [.Name x p'] (.ListComp elt [⟨tg, iter, ifs, 0⟩] scope p2) pos) (tAsg (tLc wi gt tt tel (own.map (·.2))) (gName i)) (sSet i (wLc fi fg ft fel (own.map (·.2)))) :=
  ⟨hi.k, lcB_ps i hc hN hi ok hg ht he hy hyl hk hl hn hs, set_sound (DF.toE (X := X) ⟨hi.k, (df_lcB (pos := p2) hc hN hi ok hg ht he hS hs).p, (df_lcB (pos := p2) hc hN hi ok hg ht he hS hs).s⟩).s⟩
theorem ds_ownLcB (i : Nat) {x : Str} {p' p2 : Pos} (hc : X.calm = true) (hN : X.N.Nodup) (hi : DIB K X tg iter wi fi) (ok : BlkOk X.N X.env.scope scope own)
    (hg : ∀ (s : Shared) (H : Hp) (C : Addr) (cl : List (Str × Addr)) (fp : List Addr), DG K (X.blk s H scope (compEnvC scope cl C X.env) fp) tg S gt fg)
    (ht : ∀ (s : Shared) (H : Hp) (C : Addr) (cl : List (Str × Addr)) (fp : List Addr), DTs K (X.blk s H scope (compEnvC scope cl C X.env) fp) ifs tt ft)
    (he : ∀ (s : Shared) (H : Hp) (C : Addr) (cl : List (Str × Addr)) (fp : List Addr), DE K (X.blk s H scope (compEnvC scope cl C X.env) fp) elt tel fel)
    (hy : X.N[i]? = some x := by rfl) (hyl : X.env.scope.names.lookup x = some .local := by rfl) (hk : X.env.scope.kind = .function := by rfl) (hl : (p'.line == p2.line) = true := by rfl)
    (hn : (scope.names.any fun (n, k) => n == x && (k == .local || k == .cell)) = false := by decide +kernel) (hS : ∀ i ∈ S, i ∈ own.map (·.2) := by decide) (hs : ∀ y, foldedSetIterable iter X.env y = pure y := by intro _; rfl) :
    DS fr K X (.Assign [.Name x p'] (.ListComp elt [⟨tg, iter, ifs, 0⟩] scope p2) pos) (tAsg (tLc wi gt tt tel (own.map (·.2))) (gName i)) (sOwn i (wLc fi fg ft fel (own.map (·.2)))) :=
  ⟨hi.k, lcB_ps i hc hN hi ok hg ht he hy hyl hk hl hn hs, own_sound (df_lcB (pos := p2) hc hN hi ok hg ht he hS hs).s⟩
end
/-! ### an object set apart -/
def hide (D : Addr) (H : Hp) : Hp := fun x => if x = D then none else H x
theorem hide_self {D : Addr} {H : Hp} : hide D H D = none := by simp [hide]
theorem hide_ne {D b : Addr} {H : Hp} (h : b ≠ D) : hide D H b = H b := by simp [hide, h]
theorem _root_.L2.Same.hide {D : Addr} {F H : Hp} (s : Same F H) (n : F D = none) : Same F (DL.hide D H) := fun b u e => by
  rw [hide_ne (ne_of_none e n)]; exact s _ _ e
theorem _root_.L2.Same.unhide {D : Addr} {F H : Hp} (s : Same F (DL.hide D H)) : Same F H := fun b u e => by
  have := s _ _ e
  unfold DL.hide at this
  split at this
  · cases this
  · exact this
theorem Grow.hide {D : Addr} {F H F' H' : Hp} (g : Grow F H F' H') (n : F' D = none) : Grow F (DL.hide D H) F' (DL.hide D H') := by
  refine ⟨g.ff, fun b u e => ?_, g.fh.hide n, fun a h1 h2 => ?_⟩
  · by_cases hb : b = D
    · subst hb; rw [hide_self] at e; cases e
    · rw [hide_ne hb] at e ⊢; exact g.hh _ _ e
  · by_cases ha : a = D
    · subst ha; exact n
    · rw [hide_ne ha] at h1; exact g.ow a h1 h2
theorem Grow.unhide {D : Addr} {F H F' H' : Hp} (g : Grow F H F' (DL.hide D H')) : Grow F H F' H' := ⟨g.ff, g.hh.unhide, g.fh.unhide, g.ow⟩
theorem Grow.hideR {D : Addr} {F H F' H' : Hp} (g : Grow F H F' H') (nH : H D = none) (n : F' D = none) : Grow F H F' (DL.hide D H') := ⟨g.ff, g.hh.hide nH, g.fh.hide n, g.ow⟩
theorem J.show {K : Fr} {B HB F H : Hp} {Γ : GE} {σ : L2.St} {D : Addr} {o : HO} (j : J K B HB F Γ σ (DL.hide D H)) (e : H D = some o) (nF : F D = none) (nb : HB D = none) : J K B (upd HB D o) F Γ σ H := by
  refine ⟨⟨j.gr.ff, fun b u q => ?_, j.gr.fh.unhide, fun a h1 h2 => ?_⟩, j.len, fun i s q => ?_, j.ow⟩
  · by_cases hb : b = D
    · subst hb; rw [upd_same] at q; rw [e]; exact q
    · rw [upd_ne hb] at q; exact j.gr.hh.unhide _ _ q
  · by_cases ha : a = D
    · subst ha; exact nF
    · rw [upd_ne ha] at h1; exact j.gr.ow a h1 h2
  · have := j.sl i s q
    cases s with
    | val d => exact this
    | own d =>
      obtain ⟨a, o', ea, n1, n2, q2, r⟩ := this
      have ha : a ≠ D := by rintro rfl; rw [hide_self] at q2; cases q2
      rw [hide_ne ha] at q2
      exact ⟨a, o', ea, by rw [upd_ne ha]; exact n1, n2, q2, r⟩
theorem J.hideJ {K : Fr} {B HB F H : Hp} {Γ : GE} {σ : L2.St} {D : Addr} {o : HO} (j : J K B (upd HB D o) F Γ σ H) (nF : F D = none) (nb : HB D = none) : J K B HB F Γ σ (DL.hide D H) := by
  refine ⟨⟨j.gr.ff, fun b u q => ?_, j.gr.fh.hide nF, fun a h1 h2 => ?_⟩, j.len, fun i s q => ?_, j.ow⟩
  · have hb : b ≠ D := ne_of_none q nb
    rw [hide_ne hb]
    exact j.gr.hh b u (by rw [upd_ne hb]; exact q)
  · by_cases ha : a = D
    · subst ha; exact nF
    · exact j.gr.ow a (by rw [upd_ne ha]; exact h1) h2
  · have := j.sl i s q
    cases s with
    | val d => exact this
    | own d =>
      obtain ⟨a, o', ea, n1, n2, q2, r⟩ := this
      have ha : a ≠ D := by rintro rfl; rw [upd_same] at n1; cases n1
      exact ⟨a, o', ea, by rw [upd_ne ha] at n1; exact n1, n2, by rw [hide_ne ha]; exact q2, r⟩
/-! ### comprehensions with two sources -/
def lc2Go (g : WG) (tt : WT) (wi1 : WA) (g1 : WG) (tt1 : WT) (te : WE) (vs1 : List Nat) (Γ : GE) : List D → List D → (List D → Prop) → Prop
  | [], acc, Φ => Φ acc
  | d :: ds, acc, Φ => g d Γ fun Γ1 => tt Γ1 fun b => if b = true then wi1 Γ1 fun ds1 => lcGo g1 tt1 te (wipeG Γ1 vs1) ds1 acc fun acc' => lc2Go g tt wi1 g1 tt1 te vs1 Γ ds acc' Φ else lc2Go g tt wi1 g1 tt1 te vs1 Γ ds acc Φ
def wLc2 (wi : WA) (g : WG) (tt : WT) (wi1 : WA) (g1 : WG) (tt1 : WT) (te : WE) (vs vs1 : List Nat) : WE := fun Γ Φ => wi Γ fun ds => lc2Go g tt wi1 g1 tt1 te vs1 (wipeG Γ vs) ds [] fun ys => Φ (.lst ys)
section
variable {K : Fr} {X : Cx} {elt tg iter tg1 iter1 : Expr} {ifs ifs1 : List Expr} {scope : Scope} {own : List (Str × Nat)} {vs vs1 : List Nat} {pos : Pos} {wi wi1 : TI} {g g1 : TG} {tt tt1 : TT} {te : TE} {fi fi1 : WA} {fg fg1 : WG} {ft ft1 : WT} {fe : WE} {S S1 : List Nat}
theorem lc2_sound (hi : SI K wi fi) (hg : SG K S g fg) (ht : STt K tt ft) (hi1 : SI K wi1 fi1) (hg1 : SG K S1 g1 fg1) (ht1 : STt K tt1 ft1) (he : SE K te fe) (hS : ∀ i ∈ S, i ∈ vs) (hS1 : ∀ i ∈ S1, i ∈ vs1) :
    SF K (tLc2 wi g tt wi1 g1 tt1 te vs vs1) (wLc2 fi fg ft fi1 fg1 ft1 fe vs vs1) := by
  intro B HB F Γ σ H Q Φ j w k
  refine hi B HB F Γ σ H _ _ j w fun Jt ds F1 H1 g1' wk φ => ?_
  intro D nD
  have j1 := j.grow g1'
  have jw := j1.wipe vs
  refine ⟨fun i m H2 => ∃ F2 us acc, m = ds.length - i ∧ i ≤ ds.length ∧ Grow F1 H1 F2 H2 ∧ F2 D = none ∧ H2 D = some (.lst us) ∧ RepL K F2 us acc ∧ lc2Go fg ft fi1 fg1 ft1 fe vs1 (wipeG Γ vs) (ds.drop i) acc fun ys => Φ (.lst ys),
    ⟨ds.length, F1, [], [], rfl, Nat.zero_le _, .newH j1.fh nD, j1.fh.free nD, upd_same, .nil, φ⟩, ?_⟩
  rintro i m H2 ⟨F2, us, acc, rfl, hi2, g2, nF, eD, ra, w2⟩
  by_cases hlt : i < ds.length
  · have s12 : Same F1 F2 := g2.ff
    refine .inr ⟨wk.go i H2 (s12.trans g2.fh) hlt, fun H' => ∃ F3 us' acc', Grow F1 H1 F3 H' ∧ F3 D = none ∧ H' D = some (.lst us') ∧ RepL K F3 us' acc' ∧ lc2Go fg ft fi1 fg1 ft1 fe vs1 (wipeG Γ vs) (ds.drop (i + 1)) acc' fun ys => Φ (.lst ys),
      fun H' ⟨F3, us', acc', z⟩ => ⟨ds.length - (i + 1), by omega, F3, us', acc', rfl, hlt, z⟩, fun x H' y => ?_⟩
    obtain ⟨d, F3, ed, g3, r3⟩ := wk.yld i F2 H2 x H' s12 g2.fh hlt y
    have edrop : ds.drop i = d :: ds.drop (i + 1) := by
      have := List.getElem?_eq_some_iff.mp ed
      obtain ⟨h1, h2⟩ := this
      rw [← h2]; exact List.drop_eq_getElem_cons h1
    rw [edrop] at w2
    have g13 := g2.trans g3
    have nF3 : F3 D = none := g3.ow D (by rw [eD]; simp) nF
    have eD3 : H' D = some (.lst us) := g3.hh _ _ eD
    have nB : HB D = none := j1.gr.hh.free nD
    have jA : J K B (upd HB D (.lst us)) F3 (wipeG Γ vs) (wipe σ vs) H' := (jw.grow (g13.hideR nD nF3)).show eD3 nF3 nB
    refine hg B (upd HB D (.lst us)) F3 (wipeG Γ vs) (wipe σ vs) H' x d _ _ jA r3 w2 fun Γ4 σ4 j4 c4 w4 => ?_
    refine ⟨(c4 vs hS).trans (wipe_wipe σ vs), ?_⟩
    refine ht B (upd HB D (.lst us)) F3 Γ4 σ4 H' _ _ j4 w4 fun b F5 H5 g5 w5 => ?_
    have nF5 : F5 D = none := g5.ow D (by rw [eD3]; simp) nF3
    have eD5 : H5 D = some (.lst us) := g5.hh _ _ eD3
    cases b with
    | false => exact ⟨F5, us, acc, g13.trans g5, nF5, eD5, (ra.mono g3.ff).mono g5.ff, w5⟩
    | true =>
      have j5 := j4.grow g5
      refine hi1 B (upd HB D (.lst us)) F5 Γ4 σ4 H5 _ _ j5 w5 fun Jt1 ds1 F6 H6 g6 wk1 φ1 => ?_
      have nF6 : F6 D = none := g6.ow D (by rw [eD5]; simp) nF5
      have eD6 : H6 D = some (.lst us) := g6.hh _ _ eD5
      have ra6 := ((ra.mono g3.ff).mono g5.ff).mono g6.ff
      have g16 := (g13.trans g5).trans g6
      have j6 := (j5.grow g6).hideJ nF6 nB
      have jw1 := j6.wipe vs1
      refine ⟨fun jj k H7 => ∃ F7 us' acc', k = ds1.length - jj ∧ jj ≤ ds1.length ∧ Grow F6 (hide D H6) F7 (hide D H7) ∧ Grow F1 H1 F7 H7 ∧ F7 D = none ∧ H7 D = some (.lst us') ∧ RepL K F7 us' acc' ∧
          lcGo fg1 ft1 fe (wipeG Γ4 vs1) (ds1.drop jj) acc' (fun acc'' => lc2Go fg ft fi1 fg1 ft1 fe vs1 (wipeG Γ vs) (ds.drop (i + 1)) acc'' fun ys => Φ (.lst ys)),
        ⟨ds1.length, F6, us, acc, rfl, Nat.zero_le _, .refl (g6.fh.hide nF6), g16, nF6, eD6, ra6, φ1⟩, ?_⟩
      rintro jj k7 H7 ⟨F7, us7, acc7, rfl, hj2, g7, g17, nF7, eD7, ra7, w7⟩
      by_cases hlt1 : jj < ds1.length
      · have s67 : Same F6 F7 := g7.ff
        have f7 : Same F7 H7 := g7.fh.unhide
        refine .inr ⟨wk1.go jj H7 (s67.trans f7) hlt1, fun H' => ∃ F8 us' acc', Grow F6 (hide D H6) F8 (hide D H') ∧ Grow F1 H1 F8 H' ∧ F8 D = none ∧ H' D = some (.lst us') ∧ RepL K F8 us' acc' ∧
            lcGo fg1 ft1 fe (wipeG Γ4 vs1) (ds1.drop (jj + 1)) acc' (fun acc'' => lc2Go fg ft fi1 fg1 ft1 fe vs1 (wipeG Γ vs) (ds.drop (i + 1)) acc'' fun ys => Φ (.lst ys)),
          fun H' ⟨F8, us', acc', z⟩ => ⟨ds1.length - (jj + 1), by omega, F8, us', acc', rfl, hlt1, z⟩, fun x1 H8 y1 => ?_⟩
        obtain ⟨d1, F8, ed1, g8, r8⟩ := wk1.yld jj F7 H7 x1 H8 s67 f7 hlt1 y1
        have edrop1 : ds1.drop jj = d1 :: ds1.drop (jj + 1) := by
          obtain ⟨h1, h2⟩ := List.getElem?_eq_some_iff.mp ed1
          rw [← h2]; exact List.drop_eq_getElem_cons h1
        rw [edrop1] at w7
        have nF8 : F8 D = none := g8.ow D (by rw [eD7]; simp) nF7
        have eD8 : H8 D = some (.lst us7) := g8.hh _ _ eD7
        have g68 := g7.trans (g8.hide nF8)
        have jB : J K B (upd HB D (.lst us7)) F8 (wipeG Γ4 vs1) (wipe σ4 vs1) H8 := (jw1.grow g68).show eD8 nF8 nB
        refine hg1 B (upd HB D (.lst us7)) F8 (wipeG Γ4 vs1) (wipe σ4 vs1) H8 x1 d1 _ _ jB r8 w7 fun Γ9 σ9 j9 c9 w9 => ?_
        refine ⟨(c9 vs1 hS1).trans (wipe_wipe σ4 vs1), ?_⟩
        refine ht1 B (upd HB D (.lst us7)) F8 Γ9 σ9 H8 _ _ j9 w9 fun b1 F10 H10 g10 w10 => ?_
        have nF10 : F10 D = none := g10.ow D (by rw [eD8]; simp) nF8
        have eD10 : H10 D = some (.lst us7) := g10.hh _ _ eD8
        have ra10 := (ra7.mono g8.ff).mono g10.ff
        cases b1 with
        | false => exact ⟨F10, us7, acc7, g68.trans (g10.hide nF10), (g17.trans g8).trans g10, nF10, eD10, ra10, w10⟩
        | true =>
          refine he B (upd HB D (.lst us7)) F10 Γ9 σ9 H10 _ _ (j9.grow g10) w10 fun v y F11 H11 g11 r11 w11 => ?_
          have nF11 : F11 D = none := g11.ow D (by rw [eD10]; simp) nF10
          have eD11 : H11 D = some (.lst us7) := g11.hh _ _ eD10
          have ra11 := ra10.mono g11.ff
          have eh : hide D (upd H11 D (.lst (us7 ++ [v]))) = hide D H11 := by
            funext b; unfold DL.hide; split
            · rfl
            · rename_i hb; rw [upd_ne hb]
          refine ⟨us7, eD11, by rw [ra11.length]; exact w11.1, F11, us7 ++ [v], acc7 ++ [y], ?_, (((g17.trans g8).trans g10).trans g11).updNew nD nF11, nF11, upd_same, ra11.append (.cons r11 .nil), w11.2⟩
          rw [eh]
          exact (g68.trans (g10.hide nF10)).trans (g11.hide nF11)
      · have e : jj = ds1.length := by omega
        subst e
        rw [List.drop_length] at w7
        exact .inl ⟨wk1.stop _ H7 (g7.ff.trans g7.fh.unhide) (Nat.le_refl _), F7, us7, acc7, g17, nF7, eD7, ra7, w7⟩
  · have e : i = ds.length := by omega
    subst e
    rw [List.drop_length] at w2
    refine .inl ⟨wk.stop _ H2 (g2.ff.trans g2.fh) (Nat.le_refl _), ?_⟩
    exact k D _ _ F2 H2 (g1'.trans g2) nF (g1'.hh.free nD) eD (.lst ra) w2
theorem df_lc2 (hc : X.calm = true) (hN : X.N.Nodup) (hi : DI K X tg iter wi fi) (ok : BlkOk X.N X.env.scope scope own)
    (hg : ∀ (s : Shared) (H : Hp) (C : Addr) (cl : List (Str × Addr)) (fp : List Addr), DG K (X.blk s H scope (compEnvC scope cl C X.env) fp) tg S g fg)
    (ht : ∀ (s : Shared) (H : Hp) (C : Addr) (cl : List (Str × Addr)) (fp : List Addr), DTs K (X.blk s H scope (compEnvC scope cl C X.env) fp) ifs tt ft)
    (hi1 : ∀ (s : Shared) (H : Hp) (C : Addr) (cl : List (Str × Addr)) (fp : List Addr), DI K (X.blk s H scope (compEnvC scope cl C X.env) fp) tg1 iter1 wi1 fi1)
    (hg1 : ∀ (s : Shared) (H : Hp) (C : Addr) (cl : List (Str × Addr)) (fp : List Addr), DG K (X.blk s H scope (compEnvC scope cl C X.env) fp) tg1 S1 g1 fg1)
    (ht1 : ∀ (s : Shared) (H : Hp) (C : Addr) (cl : List (Str × Addr)) (fp : List Addr), DTs K (X.blk s H scope (compEnvC scope cl C X.env) fp) ifs1 tt1 ft1)
    (he : ∀ (s : Shared) (H : Hp) (C : Addr) (cl : List (Str × Addr)) (fp : List Addr), DE K (X.blk s H scope (compEnvC scope cl C X.env) fp) elt te fe)
    (vs1 : List Nat) (hv : ∀ i ∈ vs1, i ∈ own.map (·.2) := by decide) (hS : ∀ i ∈ S, i ∈ own.map (·.2) := by decide) (hS1 : ∀ i ∈ S1, i ∈ vs1 := by decide)
    (hs : ∀ x, foldedSetIterable iter X.env x = pure x := by intro _; rfl) (hs1 : ∀ env x, foldedSetIterable iter1 env x = pure x := by intro _ _; rfl) :
    DF K X (.ListComp elt [⟨tg, iter, ifs, 0⟩, ⟨tg1, iter1, ifs1, 0⟩] scope pos) (tLc2 wi g tt wi1 g1 tt1 te (own.map (·.2)) vs1) (wLc2 fi fg ft fi1 fg1 ft1 fe (own.map (·.2)) vs1) := by
  refine ⟨hi.k, pe_lc2 hc hN hi.p ok hv (fun s H C cl fp => (hg s H C cl fp).p) (fun s H C cl fp => (ht s H C cl fp).p) (fun s H C cl fp => (hi1 s H C cl fp).p) (fun s H C cl fp => (hg1 s H C cl fp).p) (fun s H C cl fp => (ht1 s H C cl fp).p) (fun s H C cl fp => (he s H C cl fp).p) hs hs1, ?_⟩
  exact lc2_sound hi.s (hg ({} : Shared) (fun _ => none) 0 [] []).s (ht ({} : Shared) (fun _ => none) 0 [] []).s (hi1 ({} : Shared) (fun _ => none) 0 [] []).s (hg1 ({} : Shared) (fun _ => none) 0 [] []).s (ht1 ({} : Shared) (fun _ => none) 0 [] []).s (he ({} : Shared) (fun _ => none) 0 [] []).s hS hS1
end
end DL

set_option Elab.async false
set_option linter.all false
set_option maxRecDepth 100000
set_option maxHeartbeats 4000000
namespace DL
open PySem PySem.Spec PyProof.Rows L2

/-! ### loops over typed lists -/
theorem for_list' {α : Type} {g : WG} {f : WS} {κ : DK} (e : α → D) (I : Nat → GE → Prop) : ∀ (l : List α) (k : Nat) (Γ : GE), I k Γ →
    (∀ i a Γ (N : GE → Prop), l[i]? = some a → I (k + i) Γ → (∀ Γ', I (k + i + 1) Γ' → N Γ') → g (e a) Γ fun Γ1 => f Γ1 { κ with nx := N, ct := N, bk := κ.nx }) →
    (∀ Γ, I (k + l.length) Γ → κ.nx Γ) → forGo g f κ (l.map e) Γ
  | [], k, Γ, h0, hs, hd => hd Γ h0
  | a :: l, k, Γ, h0, hs, hd => by
    refine hs 0 a Γ _ rfl h0 fun Γ' h' => ?_
    refine for_list' e I l (k + 1) Γ' h' (fun i b Γ2 N e1 e2 e3 => ?_) (fun Γ2 h2 => hd Γ2 (by simpa [Nat.add_comm, Nat.add_left_comm, Nat.add_assoc] using h2))
    refine hs (i + 1) b Γ2 N (by simpa using e1) (by simpa [Nat.add_comm, Nat.add_left_comm, Nat.add_assoc] using e2) fun Γ3 h3 => e3 Γ3 (by simpa [Nat.add_comm, Nat.add_left_comm, Nat.add_assoc] using h3)
theorem for_list {α : Type} {g : WG} {f : WS} {κ : DK} (e : α → D) (I : Nat → GE → Prop) (l : List α) {Γ : GE} (h0 : I 0 Γ)
    (hs : ∀ i a Γ (N : GE → Prop), l[i]? = some a → I i Γ → (∀ Γ', I (i + 1) Γ' → N Γ') → g (e a) Γ fun Γ1 => f Γ1 { κ with nx := N, ct := N, bk := κ.nx }) (hd : ∀ Γ, I l.length Γ → κ.nx Γ) : forGo g f κ (l.map e) Γ :=
  for_list' e I l 0 Γ h0 (fun i a Γ N h1 h2 h3 => hs i a Γ N h1 (by simpa using h2) (by simpa using h3)) (by simpa using hd)
theorem for_rng {g : WG} {f : WS} {κ : DK} (lo : Int) (n : Nat) (I : Nat → GE → Prop) {Γ : GE} (h0 : I 0 Γ)
    (hs : ∀ i Γ (N : GE → Prop), i < n → I i Γ → (∀ Γ', I (i + 1) Γ' → N Γ') → g (.int (lo + i)) Γ fun Γ1 => f Γ1 { κ with nx := N, ct := N, bk := κ.nx }) (hd : ∀ Γ, I n Γ → κ.nx Γ) : forGo g f κ (rngD lo n) Γ := by
  refine for_list (fun (i : Nat) => D.int (lo + i)) I (List.range n) h0 (fun i a Γ N h1 h2 h3 => ?_) (by simpa using hd)
  have h1' : a = i ∧ i < n := by
    obtain ⟨hi, e⟩ := List.getElem?_eq_some_iff.mp h1
    simp at hi e
    exact ⟨e.symm, hi⟩
  obtain ⟨rfl, hi⟩ := h1'
  exact hs a Γ N hi h2 h3
/-- a turn of a comprehension -/
def elW (g : WG) (tt : WT) (te : WE) (Γ : GE) (d : D) (Ψ : Option D → Prop) : Prop := g d Γ fun Γ1 => tt Γ1 fun b => if b = true then te Γ1 fun y => Ψ (some y) else Ψ none
theorem lc_filterMap {α : Type} {g : WG} {tt : WT} {te : WE} {Γ : GE} {Φ : List D → Prop} (e : α → D) (f : α → Option D) : ∀ (l : List α) (acc : List D), (∀ a ∈ l, ∀ Ψ, Ψ (f a) → elW g tt te Γ (e a) Ψ) → acc.length + l.length ≤ sizeLine →
    Φ (acc ++ l.filterMap f) → lcGo g tt te Γ (l.map e) acc Φ
  | [], acc, _, _, h => by
    show Φ acc
    simpa using h
  | a :: l, acc, hs, hl, h => by
    refine hs a (by simp) (fun o => match o with | some y => acc.length < sizeLine ∧ lcGo g tt te Γ (l.map e) (acc ++ [y]) Φ | none => lcGo g tt te Γ (l.map e) acc Φ) ?_
    rw [List.length_cons] at hl
    cases q : f a with
    | none =>
      refine lc_filterMap e f l acc (fun b hb => hs b (by simp [hb])) (by omega) ?_
      simpa [q] using h
    | some y =>
      refine ⟨by omega, lc_filterMap e f l (acc ++ [y]) (fun b hb => hs b (by simp [hb])) (by simp; omega) ?_⟩
      simpa [q] using h
theorem lc_map {α : Type} {g : WG} {tt : WT} {te : WE} {Γ : GE} {Φ : List D → Prop} (e : α → D) (f : α → D) (l : List α) (hs : ∀ a ∈ l, ∀ Ψ, Ψ (some (f a)) → elW g tt te Γ (e a) Ψ) (hl : l.length ≤ sizeLine)
    (h : Φ (l.map f)) : lcGo g tt te Γ (l.map e) [] Φ := by
  refine lc_filterMap e (fun a => some (f a)) l [] hs (by simpa using hl) ?_
  rw [List.filterMap_eq_map']
  exact h
theorem lc_filter {α : Type} {g : WG} {tt : WT} {te : WE} {Γ : GE} {Φ : List D → Prop} (e : α → D) (p : α → Bool) (f : α → D) (l : List α) (hs : ∀ a ∈ l, ∀ Ψ, Ψ (if p a = true then some (f a) else none) → elW g tt te Γ (e a) Ψ) (hl : l.length ≤ sizeLine)
    (h : Φ ((l.filter p).map f)) : lcGo g tt te Γ (l.map e) [] Φ := by
  refine lc_filterMap e (fun a => if p a = true then some (f a) else none) l [] hs (by simpa using hl) ?_
  have : l.filterMap (fun a => if p a = true then some (f a) else none) = (l.filter p).map f := by
    clear hs hl h
    induction l with
    | nil => rfl
    | cons a r ih => by_cases q : p a = true <;> simp [q, ih]
  rw [this]
  exact h
theorem while_inv {c : WT} {f : WS} {κ : DK} (I : GE → Prop) (μ : GE → Nat) {Γ : GE} (h0 : I Γ)
    (hs : ∀ Γ (N : GE → Prop), I Γ → (∀ Γ', I Γ' → μ Γ' < μ Γ → N Γ') → c Γ fun b => if b = true then f Γ { κ with nx := N, ct := N, bk := κ.nx } else κ.nx Γ) : sWhile c f Γ κ := by
  have key : ∀ m Γ, I Γ → μ Γ ≤ m → whGo c f κ (m + 1) Γ := by
    intro m
    induction m with
    | zero => exact fun Γ h hm => hs Γ (whGo c f κ 0) h fun Γ' h' hl => by omega
    | succ m ih => exact fun Γ h hm => hs Γ (whGo c f κ (m + 1)) h fun Γ' h' hl => ih Γ' h' (by omega)
  exact ⟨_, key _ Γ h0 (Nat.le_refl _)⟩

/-- one statement, then the next: the names behind it are read off -/
theorem sq {f g : WS} {Γ : GE} {κ : DK} (Γ' : GE) (h1 : ∀ N : GE → Prop, N Γ' → f Γ { κ with nx := N }) (h2 : g Γ' κ) : sSeq f g Γ κ := h1 _ h2
theorem atI_ints {l : List Int} {i : Nat} (h : i < l.length) : atI (l.map D.int) (i : Int) = some (.int (l.getD i 0)) := by
  refine atI_nat ?_
  simp [List.getD, h]
theorem getD_mem {l : List Int} {i : Nat} {P : Int → Prop} (h : ∀ x ∈ l, P x) (hi : i < l.length) : P (l.getD i 0) := by
  have e : l.getD i 0 = l[i] := by simp [List.getD, hi]
  rw [e]; exact h _ (List.getElem_mem hi)

/-! ### equality -/
@[simp] theorem deq_int (i j : Int) : deq (.int i) (.int j) = decide (i = j) := by simp only [deq, py, PyData.eqv]; exact Bool.beq_eq_decide_eq i j
@[simp] theorem deq_bl (i j : Bool) : deq (.bl i) (.bl j) = decide (i = j) := by simp only [deq, py, PyData.eqv]; exact Bool.beq_eq_decide_eq i j
@[simp] theorem deq_str (i j : Str) : deq (.str i) (.str j) = decide (i = j) := by simp only [deq, py, PyData.eqv]; exact Bool.beq_eq_decide_eq i j
@[simp] theorem deq_non : deq .non .non = true := by simp only [deq, py, PyData.eqv]
@[simp] theorem deq_int_non (i : Int) : deq (.int i) .non = false := by simp only [deq, py, PyData.eqv]
@[simp] theorem deq_non_int (i : Int) : deq .non (.int i) = false := by simp only [deq, py, PyData.eqv]
def deqL (xs ys : List D) : Bool := PyData.eqvAll (pys xs) (pys ys)
@[simp] theorem deq_lst (xs ys : List D) : deq (.lst xs) (.lst ys) = deqL xs ys := by simp only [deq, deqL, py, PyData.eqv]
@[simp] theorem deq_tup (xs ys : List D) : deq (.tup xs) (.tup ys) = deqL xs ys := by simp only [deq, deqL, py, PyData.eqv]
@[simp] theorem deqL_nil : deqL [] [] = true := by simp only [deqL, pys, PyData.eqvAll]
@[simp] theorem deqL_nc (y : D) (ys : List D) : deqL [] (y :: ys) = false := by simp only [deqL, pys, PyData.eqvAll]
@[simp] theorem deqL_cn (x : D) (xs : List D) : deqL (x :: xs) [] = false := by simp only [deqL, pys, PyData.eqvAll]
@[simp] theorem deqL_cons (x y : D) (xs ys : List D) : deqL (x :: xs) (y :: ys) = (deq x y && deqL xs ys) := by simp only [deqL, deq, pys, PyData.eqvAll]
/-- == of lists whose items it tells apart -/
theorem deqL_map {α : Type} [DecidableEq α] {e : α → D} (h : ∀ a b, deq (e a) (e b) = decide (a = b)) : ∀ (l m : List α), deqL (l.map e) (m.map e) = decide (l = m)
  | [], [] => by simp
  | [], _ :: _ => by simp
  | _ :: _, [] => by simp
  | a :: l, b :: m => by
    rw [List.map_cons, List.map_cons, deqL_cons, h, deqL_map h l m]
    simp [Bool.decide_and]
@[simp] theorem deqL_ints (l m : List Int) : deqL (l.map .int) (m.map .int) = decide (l = m) := deqL_map deq_int l m
@[simp] theorem shp_ints (n : Nat) (l : List Int) : shp (n + 1) (.lst (l.map .int)) = true := by simp [shp]
/-- two equal data -/
theorem deq_refl {d : D} (h : shp 9 d = true) : deq d d = true := SeqAt.eqv_refl _ (SeqAt.canLay_of_shaped (shp_shaped h))

/-! ### the draws of a law -/
def law_cellN (ns : List Int) (k : Nat) : Int := (ns[k]?).getD 0
def sp_law_cell : List D → D → Prop := fun ds d => ∃ (ns : List Int) (k : Nat), ds = [.scr ns, .int k] ∧ d = .int (law_cellN ns k)
theorem sp_law_cell_len : ∀ (ds : List D) (d : D), sp_law_cell ds d → ds.length = 2 := by
  rintro _ _ ⟨ns, k, rfl, _⟩; rfl
def sem_law_cell : WS :=
  (sSeq (sIf (wTest (w2 wLt (wVar 1) (wCall wLen (wCons (wVar 0) wNil))))
  (sRet (wCall wInt (wCons (w2 wIx (wVar 0) (wVar 1)) wNil)))
  sNext)
  (sRet (wC (.int 0))))
theorem hf_law_cell : ∀ (ds : List D) (d : D), sp_law_cell ds d → sem_law_cell (startG 2 ds) { nx := fun _ => false = false ∧ d = .non, rt := fun z => z = d } := by
  rintro _ _ ⟨ns, k, rfl, rfl⟩
  simp [sem_law_cell, startG, law_cellN]
  by_cases h : k < ns.length
  · exact .inr ⟨h, atI_nat (by simp [h])⟩
  · refine .inl ⟨by omega, ?_⟩
    rw [List.getElem?_eq_none (by omega)]; rfl
/-- the digits of a great cell -/
def bigL (limit : Int) : Nat → Int → List Int
  | 0, _ => []
  | n + 1, c => c % limit :: bigL limit n (c / limit)
def mix1 (cell : Int) (k : Nat) : Int := (cell * 48271 + k * 69621 + 7) % 2147483647
def mix2 (m : Int) (k : Nat) : Int := (m * m + m * 40692 + k * 16807 + 11) % 2147483399
def mixN (cell limit : Int) (k : Nat) : Int := (mix2 (mix1 cell k) k / 32) % limit
def numsL (cell : Int) (n : Nat) (limit : Int) : List Int := if 10 ^ 18 ≤ cell then bigL limit n cell else (List.range n).map (mixN cell limit)
theorem bigL_len (l : Int) : ∀ n c, (bigL l n c).length = n
  | 0, _ => rfl
  | n + 1, c => by simp [bigL, bigL_len l n]
theorem numsL_len (cell limit : Int) (n : Nat) : (numsL cell n limit).length = n := by
  unfold numsL; split
  · exact bigL_len _ _ _
  · simp
theorem bigL_mem {l : Int} (h : 0 < l) : ∀ n c, ∀ x ∈ bigL l n c, 0 ≤ x ∧ x < l
  | 0, _, x, hx => by simp [bigL] at hx
  | n + 1, c, x, hx => by
    rcases List.mem_cons.mp hx with rfl | hx
    · exact ⟨Int.emod_nonneg _ (by omega), Int.emod_lt_of_pos _ h⟩
    · exact bigL_mem h n _ x hx
theorem numsL_mem {l : Int} (h : 0 < l) (n : Nat) (c : Int) : ∀ x ∈ numsL c n l, 0 ≤ x ∧ x < l := by
  unfold numsL; split
  · exact bigL_mem h n c
  · intro x hx
    obtain ⟨k, _, rfl⟩ := List.mem_map.mp hx
    exact ⟨Int.emod_nonneg _ (by omega), Int.emod_lt_of_pos _ h⟩
def sp_law_numbers : List D → D → Prop := fun ds d => ∃ (cell limit : Int) (n : Nat), n ≤ 1000000 ∧ 0 < limit ∧ limit < 2 ^ 250 ∧ ds = [.int cell, .int n, .int limit] ∧ d = .lst ((numsL cell n limit).map .int)
theorem sp_law_numbers_len : ∀ (ds : List D) (d : D), sp_law_numbers ds d → ds.length = 3 := by
  rintro _ _ ⟨_, _, _, _, _, _, rfl, _⟩; rfl
def sem_law_numbers : WS :=
  (sSeq (sOwn 3 (wLst wNil))
  (sSeq (sIf (wTest (w2 wGe (wVar 0) (w2 wPow (wC (.int 10)) (wC (.int 18)))))
  (sSeq (sFor (wItR1 (wCons (wVar 1) wNil)) (gSet 4)
  (sSeq (sApp 3 (w2 wMod (wCall wInt (wCons (wVar 0) wNil)) (wVar 2)))
  (sSet 0 (w2 wDiv (wCall wInt (wCons (wVar 0) wNil)) (wVar 2)))))
  (sRetV 3))
  sNext)
  (sSeq (sFor (wItR1 (wCons (wVar 1) wNil)) (gSet 4)
  (sSeq (sSet 5 (w2 wMod (wCall wInt (wCons (w2 wAdd (w2 wAdd (w2 wMul (wVar 0) (wC (.int 48271))) (w2 wMul (wVar 4) (wC (.int 69621)))) (wC (.int 7))) wNil)) (wC (.int 2147483647))))
  (sSeq (sSet 5 (w2 wMod (wCall wInt (wCons (w2 wAdd (w2 wAdd (w2 wAdd (w2 wMul (wVar 5) (wVar 5)) (w2 wMul (wVar 5) (wC (.int 40692)))) (w2 wMul (wVar 4) (wC (.int 16807)))) (wC (.int 11))) wNil)) (wC (.int 2147483399))))
  (sApp 3 (w2 wMod (wCall wInt (wCons (w2 wDiv (wVar 5) (wC (.int 32))) wNil)) (wVar 2))))))
  (sRetV 3))))
theorem line_le {n : Nat} (h : n ≤ 1000000) : n < sizeLine := by rw [sizeLine_eq]; omega
theorem hf_law_numbers : ∀ (ds : List D) (d : D), sp_law_numbers ds d → sem_law_numbers (startG 6 ds) { nx := fun _ => false = false ∧ d = .non, rt := fun z => z = d } := by
  rintro _ _ ⟨cell, limit, n, hn, hl, hl2, rfl, rfl⟩
  simp [sem_law_numbers, startG, CPow, List.replicate]
  by_cases hc : 10 ^ 18 ≤ cell
  · refine .inr ⟨by omega, by omega, for_rng 0 n (fun i Γ => ∃ (c : Int) (l : List Int) (x : Option Sl), Γ = [some (.val (.int c)), some (.val (.int n)), some (.val (.int limit)), some (.own (.lst (l.map .int))), x, none] ∧ l.length = i ∧ l ++ bigL limit (n - i) c = bigL limit n cell)
      ⟨cell, [], none, rfl, rfl, rfl⟩ ?_ ?_⟩
    · rintro i Γ N hi ⟨c, l, x, rfl, hlen, he⟩ hN
      have := line_le hn
      simp [divOk, hl, hl2]
      refine ⟨by omega, by omega, hN _ ⟨c / limit, l ++ [c % limit], some (.val (.int i)), by simp, by simp [hlen], ?_⟩⟩
      have e : n - i = (n - (i + 1)) + 1 := by omega
      rw [e] at he
      rw [← he]
      simp [bigL]
    · rintro Γ ⟨c, l, x, rfl, hlen, he⟩
      have hc' : (1000000000000000000 : Int) ≤ cell := by omega
      simp [numsL, hc']
      have : l = bigL limit n cell := by rw [← he]; simp [bigL]
      rw [this]
  · refine .inl ⟨by omega, by omega, for_rng 0 n (fun i Γ => ∃ (x y : Option Sl), Γ = [some (.val (.int cell)), some (.val (.int n)), some (.val (.int limit)), some (.own (.lst (((List.range i).map (mixN cell limit)).map .int))), x, y])
      ⟨none, none, rfl⟩ ?_ ?_⟩
    · rintro i Γ N hi ⟨x, y, rfl⟩ hN
      have := line_le hn
      have h1 : 0 ≤ mix1 cell i ∧ mix1 cell i < 2147483647 := ⟨Int.emod_nonneg _ (by omega), Int.emod_lt_of_pos _ (by omega)⟩
      unfold mix1 at h1
      simp [divOk, hl, hl2, mulOk, CMul]
      refine ⟨.inl (by omega), by omega, hN _ ⟨some (.val (.int i)), some (.val (.int (mix2 (mix1 cell i) i))), ?_⟩⟩
      simp [List.range_succ, mixN, mix1, mix2]
    · rintro Γ ⟨x, y, rfl⟩
      have hc' : ¬ (1000000000000000000 : Int) ≤ cell := by omega
      simp [numsL, hc']
def drawsL (ns : List Int) (k n : Nat) : List Int := numsL (law_cellN ns k + 101 * k) n 5040
def sp_law_draws : List D → D → Prop := fun ds d => ∃ (ns : List Int) (k n : Nat), n ≤ 1000000 ∧ ds = [.scr ns, .int k, .int n] ∧ d = .lst ((drawsL ns k n).map .int)
theorem sp_law_draws_len : ∀ (ds : List D) (d : D), sp_law_draws ds d → ds.length = 3 := by
  rintro _ _ ⟨_, _, _, _, rfl, _⟩; rfl
def sem_law_draws : WS :=
  (sRet (wFn sp_law_numbers (wCons (w2 wAdd (wFn sp_law_cell (wCons (wVar 0) (wCons (wVar 1) wNil))) (w2 wMul (wC (.int 101)) (wVar 1))) (wCons (wVar 2) (wCons (wC (.int 5040)) wNil)))))
theorem hf_law_draws : ∀ (ds : List D) (d : D), sp_law_draws ds d → sem_law_draws (startG 3 ds) { nx := fun _ => false = false ∧ d = .non, rt := fun z => z = d } := by
  rintro _ _ ⟨ns, k, n, hn, rfl, rfl⟩
  simp [sem_law_draws, startG, List.replicate]
  refine ⟨.int (law_cellN ns k), ⟨ns, k, rfl, rfl⟩, ?_⟩
  simp [mulOk, CMul]
  exact ⟨_, 5040, n, hn, by omega, by omega, rfl, rfl⟩
theorem drawsL_len (ns : List Int) (k n : Nat) : (drawsL ns k n).length = n := numsL_len _ _ _
theorem drawsL_mem (ns : List Int) (k n : Nat) : ∀ x ∈ drawsL ns k n, 0 ≤ x ∧ x < 5040 := numsL_mem (by omega) _ _
/-! ### _law_same, of two equal data -/
/-- data of at most n levels, lists of at most a million items, no dicts -/
def sm : Nat → D → Bool
  | _, .non => true | _, .bl _ => true | _, .int _ => true | _, .str x => PyData.strOk x
  | n + 1, .lst xs => decide (xs.length ≤ 1000000) && xs.all (sm n) | n + 1, .tup xs => decide (xs.length ≤ 1000000) && xs.all (sm n)
  | _, _ => false
@[simp] theorem sm_int (n : Nat) (i : Int) : sm n (.int i) = true := by cases n <;> rfl
@[simp] theorem sm_bl (n : Nat) (i : Bool) : sm n (.bl i) = true := by cases n <;> rfl
@[simp] theorem sm_non (n : Nat) : sm n .non = true := by cases n <;> rfl
@[simp] theorem sm_str (n : Nat) (x : Str) : sm n (.str x) = PyData.strOk x := by cases n <;> rfl
@[simp] theorem sm_lst (n : Nat) (xs : List D) : sm (n + 1) (.lst xs) = (decide (xs.length ≤ 1000000) && xs.all (sm n)) := rfl
@[simp] theorem sm_tup (n : Nat) (xs : List D) : sm (n + 1) (.tup xs) = (decide (xs.length ≤ 1000000) && xs.all (sm n)) := rfl
def sp_law_same_n (n : Nat) : List D → D → Prop := fun ds r => ∃ d, sm n d = true ∧ ds = [d, d] ∧ r = .bl true
abbrev sp_law_same : List D → D → Prop := sp_law_same_n 8
theorem sp_law_same_len {n : Nat} : ∀ (ds : List D) (d : D), sp_law_same_n n ds d → ds.length = 2 := by
  rintro _ _ ⟨_, _, rfl, _⟩; rfl
def sem_law_same (sp : List D → D → Prop) : WS :=
  (sSeq (sIf (wTru (w1 (wIsi "list") (wVar 1)))
  (sIf (wOr (wNot (wTru (w1 (wIsi "list") (wVar 0)))) (wTest (w2 wNe (wCall wLen (wCons (wVar 0) wNil)) (wCall wLen (wCons (wVar 1) wNil)))))
  (sRet (wC (.bl false)))
  sNext)
  (sIf (wTru (w1 (wIsi "tuple") (wVar 1)))
  (sIf (wOr (wNot (wTru (w1 (wIsi "tuple") (wVar 0)))) (wTest (w2 wNe (wCall wLen (wCons (wVar 0) wNil)) (wCall wLen (wCons (wVar 1) wNil)))))
  (sRet (wC (.bl false)))
  sNext)
  (sIf (wTest (w1 (wIsN false) (wVar 1)))
  (sRet (w1 (wIsN false) (wVar 0)))
  (sIf (wTru (w1 (wIsi "bool") (wVar 1)))
  (sRet (wAndV (w1 (wIsi "bool") (wVar 0)) (w2 wEq (wVar 0) (wVar 1))))
  (sIf (wTru (w1 (wIsi "int") (wVar 1)))
  (sRet (wAndV (w1 (wIsi "int") (wVar 0)) (wAndV (wNotT (w1 (wIsi "bool") (wVar 0))) (w2 wEq (wVar 0) (wVar 1)))))
  (sRet (wAndV (w1 (wIsi "str") (wVar 0)) (w2 wEq (wVar 0) (wVar 1)))))))))
  (sSeq (sFor (wItR1 (wCons (wCall wLen (wCons (wVar 1) wNil)) wNil)) (gSet 2)
  (sIf (wNot (wTru (wFn sp (wCons (w2 wIx (wVar 0) (wVar 2)) (wCons (w2 wIx (wVar 1) (wVar 2)) wNil)))))
  (sRet (wC (.bl false)))
  sNext))
  (sRet (wC (.bl true)))))
@[simp] theorem shp_int (n : Nat) (i : Int) : shp n (.int i) = true := by cases n <;> rfl
@[simp] theorem shp_bl (n : Nat) (i : Bool) : shp n (.bl i) = true := by cases n <;> rfl
@[simp] theorem shp_non (n : Nat) : shp n .non = true := by cases n <;> rfl
@[simp] theorem shp_str (n : Nat) (x : Str) : shp n (.str x) = PyData.strOk x := by cases n <;> rfl
@[simp] theorem shp_lst (n : Nat) (xs : List D) : shp (n + 1) (.lst xs) = xs.all (shp n) := rfl
@[simp] theorem shp_tup (n : Nat) (xs : List D) : shp (n + 1) (.tup xs) = xs.all (shp n) := rfl
theorem same_loop {sp : List D → D → Prop} {xs : List D} {t : D} (hx : ∀ x ∈ xs, sp [x, x] (.bl true)) (ht : t = .lst xs ∨ t = .tup xs) (hl : xs.length < 2 ^ 62) {Γ : GE} (h : Γ = [some (.val t), some (.val t), none]) {κ : DK} (hn : ∀ x, κ.nx [some (.val t), some (.val t), x]) :
    forGo (gSet 2) (sIf (wNot (wTru (wFn sp (wCons (w2 wIx (wVar 0) (wVar 2)) (wCons (w2 wIx (wVar 1) (wVar 2)) wNil))))) (sRet (wC (.bl false))) sNext) κ (rngD 0 xs.length) Γ := by
  subst h
  refine for_rng 0 xs.length (fun i Γ => ∃ x : Option Sl, Γ = [some (.val t), some (.val t), x]) ⟨none, rfl⟩ ?_ ?_
  · rintro i Γ N hi ⟨x, rfl⟩ hN
    have ha : atI xs (i : Int) = some xs[i] := atI_nat (List.getElem?_eq_getElem hi)
    have hs := hx xs[i] (List.getElem_mem hi)
    rcases ht with rfl | rfl <;> (simp [ha]; exact ⟨.bl true, hs, hN _ ⟨_, rfl⟩⟩)
  · rintro Γ ⟨x, rfl⟩
    exact hn x
theorem hf_law_same : ∀ (n : Nat) (ds : List D) (d : D), sp_law_same_n n ds d → sem_law_same (match n with | 0 => fun _ _ => False | n + 1 => sp_law_same_n n) (startG 3 ds) { nx := fun _ => false = false ∧ d = .non, rt := fun z => z = d } := by
  rintro n _ _ ⟨d, hd, rfl, rfl⟩
  cases d with
  | lst xs =>
    cases n with
    | zero => simp [sm] at hd
    | succ n =>
      simp at hd
      simp [sem_law_same, startG, List.replicate]
      refine ⟨by omega, same_loop (fun x hx => ⟨x, hd.2 x hx, rfl, rfl⟩) (.inl rfl) (by omega) rfl fun x => by simp⟩
  | tup xs =>
    cases n with
    | zero => simp [sm] at hd
    | succ n =>
      simp at hd
      simp [sem_law_same, startG, List.replicate]
      refine ⟨by omega, same_loop (fun x hx => ⟨x, hd.2 x hx, rfl, rfl⟩) (.inr rfl) (by omega) rfl fun x => by simp⟩
  | scr xs => cases n <;> simp [sm] at hd
  | dK xs => cases n <;> simp [sm] at hd
  | dT xs => cases n <;> simp [sm] at hd
  | str x => simp at hd; simp [sem_law_same, startG, List.replicate, hd]
  | _ => simp [sem_law_same, startG, List.replicate]
end DL

set_option Elab.async false
set_option linter.all false
set_option maxRecDepth 100000
set_option maxHeartbeats 4000000
namespace DL
open PySem PySem.Spec PyProof.Rows L2
/-! ### more of lists -/
theorem cutI_nat {α : Type} (f : α → D) (l : List α) (a b : Nat) : cutD (l.map f) (some (a : Int)) (some (b : Int)) = ((l.drop a).take (b - a)).map f := by
  unfold cutD
  rw [HT.sIx_nat, HT.sIx_nat, List.length_map]
  apply List.ext_getElem?
  intro i
  simp only [List.getElem?_take, List.getElem?_drop, List.getElem?_map]
  by_cases h1 : a + i < l.length
  · rw [Nat.min_eq_left (show a ≤ l.length by omega)]
    by_cases h2 : i < b - a
    · rw [if_pos h2, if_pos (by omega)]
    · rw [if_neg h2, if_neg (by omega)]; rfl
  · have e1 : l[a + i]? = none := List.getElem?_eq_none (by omega)
    have e2 : l[min a l.length + i]? = none ∨ ¬ i < min b l.length - min a l.length := by
      by_cases h3 : a ≤ l.length
      · left; rw [Nat.min_eq_left h3]; exact e1
      · right; omega
    rcases e2 with e2 | e2
    · rw [e1, e2]; simp
    · rw [if_neg e2, e1]; simp
theorem cutI_tail {α : Type} (f : α → D) (l : List α) (a : Nat) : cutD (l.map f) (some (a : Int)) none = (l.drop a).map f := by
  unfold cutD
  rw [HT.sIx_nat, List.length_map]
  apply List.ext_getElem?
  intro i
  simp only [HT.sIx, List.getElem?_take, List.getElem?_drop, List.getElem?_map]
  by_cases h1 : a + i < l.length
  · rw [Nat.min_eq_left (show a ≤ l.length by omega), if_pos (by omega)]
  · rw [List.getElem?_eq_none (show l.length ≤ a + i by omega)]
    split
    · rw [List.getElem?_eq_none (show l.length ≤ min a l.length + i by omega)]
    · rfl
theorem cutI_head {α : Type} (f : α → D) (l : List α) (b : Nat) : cutD (l.map f) none (some (b : Int)) = (l.take b).map f := by
  have := cutI_nat f l 0 b
  have e : cutD (l.map f) none (some (b : Int)) = cutD (l.map f) (some ((0 : Nat) : Int)) (some (b : Int)) := by
    unfold cutD; rw [HT.sIx_nat]; simp [HT.sIx]
  rw [e, this]; simp
theorem atI_rng {α : Type} {f : Nat → α} {n i : Nat} (h : i < n) : atI ((List.range n).map f) (i : Int) = some (f i) := atI_nat (by simp [h])
theorem lc_rng {g : WG} {tt : WT} {te : WE} {Γ : GE} {Φ : List D → Prop} (f : Nat → D) {n : Nat} {lo : Int} (hs : ∀ k < n, ∀ Ψ, Ψ (some (f k)) → elW g tt te Γ (.int (lo + k)) Ψ) (hl : n ≤ sizeLine) (h : Φ ((List.range n).map f)) : lcGo g tt te Γ (rngD lo n) [] Φ :=
  lc_map (fun (i : Nat) => D.int (lo + i)) f (List.range n) (fun k hk => hs k (List.mem_range.mp hk)) (by simpa using hl) h
theorem lc_rngF {g : WG} {tt : WT} {te : WE} {Γ : GE} {Φ : List D → Prop} (p : Nat → Bool) (f : Nat → D) {n : Nat} {lo : Int} (hs : ∀ k < n, ∀ Ψ, Ψ (if p k = true then some (f k) else none) → elW g tt te Γ (.int (lo + k)) Ψ) (hl : n ≤ sizeLine) (h : Φ (((List.range n).filter p).map f)) : lcGo g tt te Γ (rngD lo n) [] Φ :=
  lc_filter (fun (i : Nat) => D.int (lo + i)) p f (List.range n) (fun k hk => hs k (List.mem_range.mp hk)) (by simpa using hl) h
/-- one statement, then the next: what holds behind it -/
theorem sqP {f g : WS} {Γ : GE} {κ : DK} (P : GE → Prop) (h1 : ∀ N : GE → Prop, (∀ Γ', P Γ' → N Γ') → f Γ { κ with nx := N }) (h2 : ∀ Γ', P Γ' → g Γ' κ) : sSeq f g Γ κ := h1 _ h2
@[simp] theorem use_same8 {a b : D} {P : D → Prop} : (∃ r, sp_law_same_n 8 [a, b] r ∧ P r) ↔ sm 8 a = true ∧ b = a ∧ P (.bl true) := by
  constructor
  · rintro ⟨_, ⟨d, h, e, rfl⟩, p⟩
    simp at e
    obtain ⟨rfl, rfl⟩ := e
    exact ⟨h, rfl, p⟩
  · rintro ⟨h, rfl, p⟩
    exact ⟨_, ⟨_, h, rfl, rfl⟩, p⟩
@[simp] theorem sm_intsL (n : Nat) (l : List Int) : sm (n + 1) (.lst (l.map .int)) = decide (l.length ≤ 1000000) := by simp
@[simp] theorem atI_c0 {α : Type} (x : α) (xs : List α) : atI (x :: xs) 0 = some x := by
  have := atI_nat (xs := x :: xs) (j := 0) (by rfl); exact this
@[simp] theorem atI_c1 {α : Type} (x y : α) (xs : List α) : atI (x :: y :: xs) 1 = some y := by
  have := atI_nat (xs := x :: y :: xs) (j := 1) (by rfl); exact this
@[simp] theorem atI_c2 {α : Type} (x y z : α) (xs : List α) : atI (x :: y :: z :: xs) 2 = some z := by
  have := atI_nat (xs := x :: y :: z :: xs) (j := 2) (by rfl); exact this
@[simp] theorem atI_c3 {α : Type} (x y z w : α) (xs : List α) : atI (x :: y :: z :: w :: xs) 3 = some w := by
  have := atI_nat (xs := x :: y :: z :: w :: xs) (j := 3) (by rfl); exact this
/-- an item of a list of ints -/
def gd (l : List Int) (i : Nat) : Int := l.getD i 0
theorem atI_gd {l : List Int} {i : Nat} (h : i < l.length) : atI (l.map D.int) (i : Int) = some (.int (gd l i)) := atI_ints h
theorem gd_mem {l : List Int} {i : Nat} {P : Int → Prop} (h : ∀ x ∈ l, P x) (hi : i < l.length) : P (gd l i) := getD_mem h hi
theorem gd_in {l : List Int} {i : Nat} (hi : i < l.length) : gd l i ∈ l := gd_mem (P := fun x => x ∈ l) (fun x h => h) hi
theorem atI_gd0 {l : List Int} (h : 0 < l.length) : atI (l.map D.int) 0 = some (.int (gd l 0)) := atI_gd (i := 0) h
theorem enum_gd (l : List Int) : enumD (l.map D.int) = (List.range l.length).map fun (i : Nat) => D.tup [.int (i : Int), .int (gd l i)] := by
  apply List.ext_getElem?
  intro i
  by_cases h : i < l.length
  · simp [enumD, List.getElem?_map, List.getElem?_range, h, gd]
  · simp [enumD, List.getElem?_eq_none (show l.length ≤ i by omega)]
    rw [List.getElem?_eq_none (by simpa using Nat.not_lt.mp h)]; rfl
@[simp] theorem size_le {k : Nat} (h : k ≤ 1000000) : k ≤ sizeLine := Nat.le_of_lt (line_le h)
@[simp] theorem size_lt {k : Nat} (h : k ≤ 1000000) : k < sizeLine := line_le h
@[simp] theorem ints_nats (l : List Nat) : ints? (l.map fun (k : Nat) => D.int (k : Int)) = some (l.map fun (k : Nat) => (k : Int)) := by
  have := ints_map (l.map fun (k : Nat) => (k : Int))
  rwa [List.map_map] at this
@[simp] theorem bls_mapF {α : Type} (f : α → Bool) (l : List α) : bls? (l.map fun a => D.bl (f a)) = some (l.map f) := by
  have := bls_map (l.map f)
  rwa [List.map_map] at this
@[simp] theorem ints_mapF {α : Type} (f : α → Int) (l : List α) : ints? (l.map fun a => D.int (f a)) = some (l.map f) := by
  have := ints_map (l.map f)
  rwa [List.map_map] at this
theorem all_id (bs : List Bool) : bs.all id = !decide (false ∈ bs) := by
  induction bs with
  | nil => rfl
  | cons b r ih => cases b <;> simp [ih]
/-! ### is_whole, is_within, _law_says -/
def sp_law_says : List D → D → Prop := fun ds d => ∃ a b : Bool, ds = [.bl a, .bl b] ∧ d = .bl (decide (a = b))
theorem sp_law_says_len : ∀ (ds : List D) (d : D), sp_law_says ds d → ds.length = 2 := by rintro _ _ ⟨_, _, rfl, _⟩; rfl
def sem_law_says : WS :=
  (sRet (wAndV (w1 (wIsi "bool") (wVar 0)) (w2 wEq (wVar 0) (wVar 1))))
theorem hf_law_says : ∀ (ds : List D) (d : D), sp_law_says ds d → sem_law_says (startG 2 ds) { nx := fun _ => false = false ∧ d = .non, rt := fun z => z = d } := by
  rintro _ _ ⟨a, b, rfl, rfl⟩
  simp [sem_law_says, startG, List.replicate]
@[simp] theorem use_says {a b : Bool} {P : D → Prop} : (∃ r, sp_law_says [.bl a, .bl b] r ∧ P r) ↔ P (.bl (decide (a = b))) := by
  constructor
  · rintro ⟨_, ⟨a', b', e, rfl⟩, p⟩
    simp at e
    obtain ⟨rfl, rfl⟩ := e
    exact p
  · intro p
    exact ⟨_, ⟨a, b, rfl, rfl⟩, p⟩
/-! ### is_whole, is_within, of ints -/
def sp_is_whole : List D → D → Prop := fun ds d => ∃ i : Int, ds = [.int i] ∧ d = .bl true
theorem sp_is_whole_len : ∀ (ds : List D) (d : D), sp_is_whole ds d → ds.length = 1 := by rintro _ _ ⟨_, rfl, _⟩; rfl
def sem_is_whole : WS :=
  (sRet (wAndV (w1 (wIsi "int") (wVar 0)) (wNotT (w1 (wIsi "bool") (wVar 0)))))
theorem hf_is_whole : ∀ (ds : List D) (d : D), sp_is_whole ds d → sem_is_whole (startG 1 ds) { nx := fun _ => false = false ∧ d = .non, rt := fun z => z = d } := by
  rintro _ _ ⟨i, rfl, rfl⟩
  simp [sem_is_whole, startG, List.replicate]
def sp_is_within : List D → D → Prop := fun ds d => ∃ v lo hi : Int, ds = [.int v, .int lo, .int hi] ∧ d = .bl (decide (lo ≤ v) && decide (v ≤ hi))
theorem sp_is_within_len : ∀ (ds : List D) (d : D), sp_is_within ds d → ds.length = 3 := by rintro _ _ ⟨_, _, _, rfl, _⟩; rfl
def sem_is_within : WS :=
  (sRet (wAndV (wFn sp_is_whole (wCons (wVar 0) wNil)) (wChain wLe wLe (wVar 1) (wVar 0) (wVar 2))))
theorem hf_is_within : ∀ (ds : List D) (d : D), sp_is_within ds d → sem_is_within (startG 3 ds) { nx := fun _ => false = false ∧ d = .non, rt := fun z => z = d } := by
  rintro _ _ ⟨v, lo, hi, rfl, rfl⟩
  simp [sem_is_within, startG, List.replicate]
  refine ⟨_, ⟨v, rfl, rfl⟩, ?_⟩
  simp
  by_cases h : lo ≤ v
  · simp [h]
  · simp [h]; omega
@[simp] theorem use_within {v lo hi : Int} {P : D → Prop} : (∃ r, sp_is_within [.int v, .int lo, .int hi] r ∧ P r) ↔ P (.bl (decide (lo ≤ v) && decide (v ≤ hi))) := by
  constructor
  · rintro ⟨_, ⟨_, _, _, e, rfl⟩, p⟩
    simp at e
    obtain ⟨rfl, rfl, rfl⟩ := e
    exact p
  · intro p
    exact ⟨_, ⟨v, lo, hi, rfl, rfl⟩, p⟩
end DL

set_option Elab.async false
set_option linter.all false
set_option maxRecDepth 100000
set_option maxHeartbeats 4000000
namespace DL
open PySem PySem.Spec PyProof.Rows L2
/-! ### entries -/
abbrev Ent := Int × Int × Int
def z3 : Ent := (0, 0, 0)
def eD (e : Ent) : D := .tup [.int e.1, .int e.2.1, .int e.2.2]
theorem atI_ent {l : List Ent} {k : Nat} (h : k < l.length) : atI (l.map eD) (k : Int) = some (eD (l.getD k z3)) := by
  refine atI_nat ?_; simp [List.getD, h]
theorem atI_entP {l : List Ent} {k : Nat} (h0 : 0 < k) (h : k ≤ l.length) : atI (l.map eD) ((k : Int) - 1) = some (eD (l.getD (k - 1) z3)) := by
  have := atI_ent (l := l) (k := k - 1) (by omega)
  rwa [show ((k - 1 : Nat) : Int) = (k : Int) - 1 by omega] at this
def hold (f : Int) (l : List Ent) (k : Nat) : Int := if k = 0 then f else (l.getD (k - 1) z3).2.2
def early (l : List Ent) (k : Nat) : Bool := decide (0 < k) && decide ((l.getD k z3).1 < (l.getD (k - 1) z3).1)
def brk (f : Int) (l : List Ent) (k : Nat) : Bool := decide ((l.getD k z3).2.1 ≠ hold f l k) || early l k
def brks (f : Int) (l : List Ent) : List Nat := (List.range l.length).filter (brk f l)
def natD (k : Nat) : D := .int (k : Int)
def sp_holder_ahead : List D → D → Prop := fun ds d => ∃ (f : Int) (l : List Ent) (k : Nat), k ≤ l.length ∧ ds = [.int f, .lst (l.map eD), .int k] ∧ d = .int (hold f l k)
theorem use_holder {f : Int} {l : List Ent} {k : Nat} {P : D → Prop} (h : k ≤ l.length) (p : P (.int (hold f l k))) : ∃ r, sp_holder_ahead [.int f, .lst (l.map eD), .int k] r ∧ P r := ⟨_, ⟨f, l, k, h, rfl, rfl⟩, p⟩
theorem sp_holder_ahead_len : ∀ (ds : List D) (d : D), sp_holder_ahead ds d → ds.length = 3 := by rintro _ _ ⟨_, _, _, _, rfl, _⟩; rfl
def sem_holder_ahead : WS :=
  (sRet (wIte (wTest (w2 wEq (wVar 2) (wC (.int 0)))) (wVar 0) (w2 wIx (w2 wIx (wVar 1) (w2 wSub (wVar 2) (wC (.int 1)))) (wC (.int 2)))))
theorem hf_holder_ahead : ∀ (ds : List D) (d : D), sp_holder_ahead ds d → sem_holder_ahead (startG 3 ds) { nx := fun _ => false = false ∧ d = .non, rt := fun z => z = d } := by
  rintro _ _ ⟨f, l, k, hk, rfl, rfl⟩
  simp [sem_holder_ahead, startG, List.replicate]
  by_cases h : k = 0
  · subst h; simp [hold]
  · have := atI_entP (l := l) (k := k) (by omega) hk
    simp [h, this, hold, eD]
def sp_is_early : List D → D → Prop := fun ds d => ∃ (l : List Ent) (k : Nat), k < l.length ∧ ds = [.lst (l.map eD), .int k] ∧ d = .bl (early l k)
theorem use_early {l : List Ent} {k : Nat} {P : D → Prop} (h : k < l.length) (p : P (.bl (early l k))) : ∃ r, sp_is_early [.lst (l.map eD), .int k] r ∧ P r := ⟨_, ⟨l, k, h, rfl, rfl⟩, p⟩
theorem sp_is_early_len : ∀ (ds : List D) (d : D), sp_is_early ds d → ds.length = 2 := by rintro _ _ ⟨_, _, _, rfl, _⟩; rfl
def sem_is_early : WS :=
  (sRet (wAndV (w2 wGt (wVar 1) (wC (.int 0))) (w2 wLt (w2 wIx (w2 wIx (wVar 0) (wVar 1)) (wC (.int 0))) (w2 wIx (w2 wIx (wVar 0) (w2 wSub (wVar 1) (wC (.int 1)))) (wC (.int 0))))))
theorem hf_is_early : ∀ (ds : List D) (d : D), sp_is_early ds d → sem_is_early (startG 2 ds) { nx := fun _ => false = false ∧ d = .non, rt := fun z => z = d } := by
  rintro _ _ ⟨l, k, hk, rfl, rfl⟩
  simp [sem_is_early, startG, List.replicate]
  by_cases h : 0 < k
  · have h1 := atI_entP (l := l) (k := k) h (by omega)
    have h2 := atI_ent hk
    have he : early l k = decide ((l.getD k z3).1 < (l.getD (k - 1) z3).1) := by simp [early, h]
    rw [he]
    simp [h, h1, h2, eD]
  · simp [show k = 0 by omega, early]
def sp_is_break : List D → D → Prop := fun ds d => ∃ (f : Int) (l : List Ent) (k : Nat), k < l.length ∧ ds = [.int f, .lst (l.map eD), .int k] ∧ d = .bl (brk f l k)
theorem use_break {f : Int} {l : List Ent} {k : Nat} {P : D → Prop} (h : k < l.length) (p : P (.bl (brk f l k))) : ∃ r, sp_is_break [.int f, .lst (l.map eD), .int k] r ∧ P r := ⟨_, ⟨f, l, k, h, rfl, rfl⟩, p⟩
theorem sp_is_break_len : ∀ (ds : List D) (d : D), sp_is_break ds d → ds.length = 3 := by rintro _ _ ⟨_, _, _, _, rfl, _⟩; rfl
def sem_is_break : WS :=
  (sRet (wOrV (w2 wNe (w2 wIx (w2 wIx (wVar 1) (wVar 2)) (wC (.int 1))) (wFn sp_holder_ahead (wCons (wVar 0) (wCons (wVar 1) (wCons (wVar 2) wNil))))) (wFn sp_is_early (wCons (wVar 1) (wCons (wVar 2) wNil)))))
theorem hf_is_break : ∀ (ds : List D) (d : D), sp_is_break ds d → sem_is_break (startG 3 ds) { nx := fun _ => false = false ∧ d = .non, rt := fun z => z = d } := by
  rintro _ _ ⟨f, l, k, hk, rfl, rfl⟩
  have h2 := atI_ent hk
  simp [sem_is_break, startG, List.replicate, h2]
  simp [eD]
  refine use_holder (by omega) ?_
  simp
  by_cases h : (l.getD k z3).2.1 = hold f l k
  · have h' := h
    simp at h'
    simp [h', brk]
    exact ⟨l, k, hk, rfl, rfl⟩
  · have h' := h
    simp at h'
    simp [h', brk]
def sp_breaks : List D → D → Prop := fun ds d => ∃ (f : Int) (l : List Ent), l.length ≤ 1000 ∧ ds = [.int f, .lst (l.map eD)] ∧ d = .lst ((brks f l).map natD)
theorem use_breaks {f : Int} {l : List Ent} {P : D → Prop} (h : l.length ≤ 1000) (p : P (.lst ((brks f l).map natD))) : ∃ r, sp_breaks [.int f, .lst (l.map eD)] r ∧ P r := ⟨_, ⟨f, l, h, rfl, rfl⟩, p⟩
theorem sp_breaks_len : ∀ (ds : List D) (d : D), sp_breaks ds d → ds.length = 2 := by rintro _ _ ⟨_, _, _, rfl, _⟩; rfl
def sem_breaks : WS :=
  (sRet (wLc (wItR1 (wCons (wCall wLen (wCons (wVar 1) wNil)) wNil)) (gSet 2) (wTru (wFn sp_is_break (wCons (wVar 0) (wCons (wVar 1) (wCons (wVar 2) wNil))))) (wVar 2) [2]))
theorem hf_breaks : ∀ (ds : List D) (d : D), sp_breaks ds d → sem_breaks (startG 3 ds) { nx := fun _ => false = false ∧ d = .non, rt := fun z => z = d } := by
  rintro _ _ ⟨f, l, hl, rfl, rfl⟩
  simp [sem_breaks, startG, List.replicate, wLc]
  refine ⟨by omega, lc_rngF (brk f l) natD (fun k hk Ψ hΨ => ?_) (size_le (by omega)) rfl⟩
  simp [elW]
  refine ⟨_, ⟨f, l, k, hk, rfl, rfl⟩, ?_⟩
  by_cases h : brk f l k = true
  · simp [h, natD] at hΨ ⊢; exact hΨ
  · simp [h, natD] at hΨ ⊢; exact hΨ
theorem brks_lt {f : Int} {l : List Ent} : ∀ k ∈ brks f l, k < l.length ∧ brk f l k = true := fun k hk => by
  obtain ⟨h1, h2⟩ := List.mem_filter.mp hk
  exact ⟨List.mem_range.mp h1, h2⟩
theorem brks_len {f : Int} {l : List Ent} : (brks f l).length ≤ l.length := by
  have := List.length_filter_le (brk f l) (List.range l.length)
  simpa [brks] using this
/-! ### papers -/
inductive Pp where
  | w (x : Int) | n (b : Bool) (L : List Int) | m (b : Bool) (k : Int) (e : Ent)
def Pp.d : Pp → D
  | .w x => .tup [.str "whole", .int x]
  | .n b L => .tup [.str (if b then "never" else "holes"), .lst (L.map .int)]
  | .m b k e => .tup [.str (if b then "mend" else "mended"), .int k, eD e]
def dueP (f : Int) (l : List Ent) : Pp := match brks f l with
  | [] => .w (hold f l l.length)
  | [k] => if early l k then .n true [(k : Int)] else .m true k ((l.getD k z3).1, hold f l k, (l.getD k z3).2.1)
  | ks => .n true (ks.map fun (k : Nat) => (k : Int))
def sp_find_chain : List D → D → Prop := fun ds d => ∃ (f : Int) (l : List Ent), l.length ≤ 1000 ∧ ds = [.int f, .lst (l.map eD)] ∧ d = (dueP f l).d
theorem sp_find_chain_len : ∀ (ds : List D) (d : D), sp_find_chain ds d → ds.length = 2 := by rintro _ _ ⟨_, _, _, rfl, _⟩; rfl
def sem_find_chain : WS :=
  (sSeq (sSet 2 (wFn sp_breaks (wCons (wVar 0) (wCons (wVar 1) wNil))))
  (sSeq (sIf (wNot (wTru (wVar 2)))
  (sRet (wTup (wCons (wC (.str "whole")) (wCons (wFn sp_holder_ahead (wCons (wVar 0) (wCons (wVar 1) (wCons (wCall wLen (wCons (wVar 1) wNil)) wNil)))) wNil))))
  sNext)
  (sSeq (sSet 3 (w2 wIx (wVar 2) (wC (.int 0))))
  (sSeq (sIf (wOr (wTest (w2 wGt (wCall wLen (wCons (wVar 2) wNil)) (wC (.int 1)))) (wTru (wFn sp_is_early (wCons (wVar 1) (wCons (wVar 3) wNil)))))
  (sRet (wTup (wCons (wC (.str "never")) (wCons (wVar 2) wNil))))
  sNext)
  (sRet (wTup (wCons (wC (.str "mend")) (wCons (wVar 3) (wCons (wTup (wCons (w2 wIx (w2 wIx (wVar 1) (wVar 3)) (wC (.int 0))) (wCons (wFn sp_holder_ahead (wCons (wVar 0) (wCons (wVar 1) (wCons (wVar 3) wNil)))) (wCons (w2 wIx (w2 wIx (wVar 1) (wVar 3)) (wC (.int 1))) wNil)))) wNil)))))))))
theorem hf_find_chain : ∀ (ds : List D) (d : D), sp_find_chain ds d → sem_find_chain (startG 4 ds) { nx := fun _ => false = false ∧ d = .non, rt := fun z => z = d } := by
  rintro _ _ ⟨f, l, hl, rfl, rfl⟩
  simp [sem_find_chain, startG, List.replicate]
  refine use_breaks hl ?_
  have hb := brks_lt (f := f) (l := l)
  match e : brks f l, hb with
  | [], _ =>
    simp [dueP, e]
    exact use_holder (Nat.le_refl _) (by simp [Pp.d])
  | [k], hb =>
    obtain ⟨hk, _⟩ := hb k (by simp)
    have h2 := atI_ent hk
    simp [natD]
    refine use_early hk ?_
    by_cases h : early l k = true
    · simp [h, dueP, e, Pp.d]
    · simp at h
      simp [h, dueP, e, h2]
      simp [eD]
      refine use_holder (by omega) ?_
      simp [Pp.d, eD]
  | k1 :: k2 :: ks, hb =>
    obtain ⟨hk, _⟩ := hb k1 (by simp)
    simp [natD, dueP, e, Pp.d]
    right; omega
@[simp] theorem w_1 : ¬ (("mended" : Str) = "mend") := by decide +kernel
@[simp] theorem w_2 : ¬ (("whole" : Str) = "never") := by decide +kernel
@[simp] theorem w_3 : ¬ (("never" : Str) = "whole") := by decide +kernel
@[simp] theorem w_4 : ¬ (("holes" : Str) = "whole") := by decide +kernel
@[simp] theorem w_5 : ¬ (("holes" : Str) = "never") := by decide +kernel
@[simp] theorem k_1 : PyData.strOk ("mend" : Str) = true := by decide +kernel
@[simp] theorem k_2 : PyData.strOk ("mended" : Str) = true := by decide +kernel
@[simp] theorem k_3 : PyData.strOk ("whole" : Str) = true := by decide +kernel
@[simp] theorem k_4 : PyData.strOk ("never" : Str) = true := by decide +kernel
@[simp] theorem k_5 : PyData.strOk ("holes" : Str) = true := by decide +kernel
def posE (e : Ent) : Bool := decide (0 ≤ e.1) && decide (0 ≤ e.2.1) && decide (0 ≤ e.2.2)
def sp_is_entry : List D → D → Prop := fun ds d => ∃ e : Ent, ds = [eD e] ∧ d = .bl (posE e)
theorem sp_is_entry_len : ∀ (ds : List D) (d : D), sp_is_entry ds d → ds.length = 1 := by rintro _ _ ⟨_, rfl, _⟩; rfl
theorem use_entry {e : Ent} {P : D → Prop} (p : P (.bl (posE e))) : ∃ r, sp_is_entry [eD e] r ∧ P r := ⟨_, ⟨e, rfl, rfl⟩, p⟩
theorem ints_ent (e : Ent) : ints? [D.int e.1, .int e.2.1, .int e.2.2] = some [e.1, e.2.1, e.2.2] := rfl
theorem min_pos {e : Ent} {m : Int} (h1 : m = e.1 ∨ m = e.2.1 ∨ m = e.2.2) (h2 : m ≤ e.1 ∧ m ≤ e.2.1 ∧ m ≤ e.2.2) : decide (0 ≤ m) = posE e := by
  unfold posE
  rw [← Bool.decide_and, ← Bool.decide_and]
  congr 1
  apply propext
  omega
def sem_is_entry : WS :=
  (sRet (wAndV (w2 wEq (wCall wLen (wCons (wVar 0) wNil)) (wC (.int 3))) (w2 wGe (wCall wMinA (wCons (wVar 0) wNil)) (wC (.int 0)))))
theorem hf_is_entry : ∀ (ds : List D) (d : D), sp_is_entry ds d → sem_is_entry (startG 1 ds) { nx := fun _ => false = false ∧ d = .non, rt := fun z => z = d } := by
  rintro _ _ ⟨e, rfl, rfl⟩
  simp [sem_is_entry, startG, List.replicate, eD]
  refine ⟨_, ints_ent e, by simp, fun m h1 h2 => ?_⟩
  simp at h1 h2
  exact min_pos h1 h2
def insE (l : List Ent) (k : Nat) (e : Ent) : List Ent := l.take k ++ [e] ++ l.drop k
def mendB (f : Int) (l : List Ent) (k : Int) (e : Ent) : Bool := !(brks f l).isEmpty && (decide (0 ≤ k) && decide (k ≤ l.length)) && posE e && (brks f (insE l k.toNat e)).isEmpty
def sp_mends : List D → D → Prop := fun ds d => ∃ (f : Int) (l : List Ent) (k : Int) (e : Ent), l.length ≤ 900 ∧ ds = [.int f, .lst (l.map eD), .int k, eD e] ∧ d = .bl (mendB f l k e)
theorem sp_mends_len : ∀ (ds : List D) (d : D), sp_mends ds d → ds.length = 4 := by rintro _ _ ⟨_, _, _, _, _, rfl, _⟩; rfl
theorem use_mends {f : Int} {l : List Ent} {k : Int} {e : Ent} {P : D → Prop} (h : l.length ≤ 900) (p : P (.bl (mendB f l k e))) : ∃ r, sp_mends [.int f, .lst (l.map eD), .int k, eD e] r ∧ P r := ⟨_, ⟨f, l, k, e, h, rfl, rfl⟩, p⟩
def sem_mends : WS :=
  (sSeq (sIf (wOr (wNot (wTru (wFn sp_breaks (wCons (wVar 0) (wCons (wVar 1) wNil))))) (wOr (wNot (wTru (wFn sp_is_within (wCons (wVar 2) (wCons (wC (.int 0)) (wCons (wCall wLen (wCons (wVar 1) wNil)) wNil)))))) (wNot (wTru (wFn sp_is_entry (wCons (wVar 3) wNil))))))
  (sRet (wC (.bl false)))
  sNext)
  (sRet (wNotT (wFn sp_breaks (wCons (wVar 0) (wCons (w2 wAdd (w2 wAdd (wSl slL (wVar 1) wNoPart (wPart (wVar 2))) (wLst (wCons (wVar 3) wNil))) (wSl slL (wVar 1) (wPart (wVar 2)) wNoPart)) wNil))))))
theorem hf_mends : ∀ (ds : List D) (d : D), sp_mends ds d → sem_mends (startG 4 ds) { nx := fun _ => false = false ∧ d = .non, rt := fun z => z = d } := by
  rintro _ _ ⟨f, l, k, e, hl, rfl, rfl⟩
  simp [sem_mends, startG, List.replicate, -List.map_drop, -List.map_take]
  refine use_breaks (by omega) ?_
  cases hb : brks f l with
  | nil => simp [mendB, hb]
  | cons b bs =>
    simp [-List.map_drop, -List.map_take]
    by_cases hk : 0 ≤ k ∧ k ≤ l.length
    · obtain ⟨n, rfl⟩ := Int.eq_ofNat_of_zero_le hk.1
      simp [show n ≤ l.length by omega, -List.map_drop, -List.map_take]
      refine use_entry ?_
      by_cases hp : posE e = true
      · simp [hp, cutI_head, cutI_tail, -List.map_drop, -List.map_take]
        refine ⟨size_lt (by omega), size_le (by omega), ?_⟩
        have e1 : (l.take n).map eD ++ eD e :: (l.drop n).map eD = (insE l n e).map eD := by simp [insE]
        rw [e1]
        refine use_breaks (by simp [insE]; omega) ?_
        simp [mendB, hb, hp, show n ≤ l.length by omega]
      · simp [hp, mendB]
    · have hf : (decide (0 ≤ k) && decide (k ≤ l.length)) = false := by simp; omega
      rw [if_neg hk]
      simp [mendB, hf]
def validB (f : Int) (l : List Ent) (k : Int) : Bool := decide (0 ≤ k) && decide (k ≤ (l.length : Int) - 1) && brk f l k.toNat
def ascB (L : List Int) : Bool := ((List.range (L.length - 1)).map fun k => decide (L.getD k 0 < L.getD (k + 1) 0)).all id
def neverB (f : Int) (l : List Ent) (L : List Int) : Bool := (L.map (validB f l)).all id && (ascB L && (decide (1 < L.length) || (decide (L.length = 1) && early l (L.getD 0 0).toNat)))
def sp_are_never : List D → D → Prop := fun ds d => ∃ (f : Int) (l : List Ent) (L : List Int), l.length ≤ 900 ∧ L.length ≤ 1000 ∧ ds = [.int f, .lst (l.map eD), .lst (L.map .int)] ∧ d = .bl (neverB f l L)
theorem sp_are_never_len : ∀ (ds : List D) (d : D), sp_are_never ds d → ds.length = 3 := by rintro _ _ ⟨_, _, _, _, _, rfl, _⟩; rfl
theorem use_never {f : Int} {l : List Ent} {L : List Int} {P : D → Prop} (h : l.length ≤ 900) (h' : L.length ≤ 1000) (p : P (.bl (neverB f l L))) : ∃ r, sp_are_never [.int f, .lst (l.map eD), .lst (L.map .int)] r ∧ P r := ⟨_, ⟨f, l, L, h, h', rfl, rfl⟩, p⟩
def sem_are_never : WS :=
  (sSeq (sIf (wNot (wTru (wCall wAll (wCons (wLc (wItL (wVar 2)) (gSet 3) wYes (wAndV (wFn sp_is_within (wCons (wVar 3) (wCons (wC (.int 0)) (wCons (w2 wSub (wCall wLen (wCons (wVar 1) wNil)) (wC (.int 1))) wNil)))) (wFn sp_is_break (wCons (wVar 0) (wCons (wVar 1) (wCons (wVar 3) wNil))))) [3]) wNil))))
  (sRet (wC (.bl false)))
  sNext)
  (sSeq (sIf (wNot (wTru (wCall wAll (wCons (wLc (wItR2 (wCons (wC (.int 1)) (wCons (wCall wLen (wCons (wVar 2) wNil)) wNil))) (gSet 3) wYes (w2 wLt (w2 wIx (wVar 2) (w2 wSub (wVar 3) (wC (.int 1)))) (w2 wIx (wVar 2) (wVar 3))) [3]) wNil))))
  (sRet (wC (.bl false)))
  sNext)
  (sRet (wOrV (w2 wGt (wCall wLen (wCons (wVar 2) wNil)) (wC (.int 1))) (wAndV (w2 wEq (wCall wLen (wCons (wVar 2) wNil)) (wC (.int 1))) (wFn sp_is_early (wCons (wVar 1) (wCons (w2 wIx (wVar 2) (wC (.int 0))) wNil))))))))
theorem hf_are_never : ∀ (ds : List D) (d : D), sp_are_never ds d → sem_are_never (startG 4 ds) { nx := fun _ => false = false ∧ d = .non, rt := fun z => z = d } := by
  rintro _ _ ⟨f, l, L, hl, hL, rfl, rfl⟩
  simp [sem_are_never, startG, List.replicate, wLc]
  refine lc_map D.int (fun k => .bl (validB f l k)) L (fun k hk Ψ hΨ => ?_) (size_le (by omega)) ?_
  · simp [elW]
    by_cases hv : 0 ≤ k ∧ k ≤ (l.length : Int) - 1
    · obtain ⟨n, rfl⟩ := Int.eq_ofNat_of_zero_le hv.1
      refine .inr ⟨hv, use_break (by omega) ?_⟩
      have : validB f l n = brk f l n := by simp [validB]; intro _; omega
      simpa [this] using hΨ
    · refine .inl ⟨by omega, ?_⟩
      have : validB f l k = false := by unfold validB; rw [show (decide (0 ≤ k) && decide (k ≤ (l.length : Int) - 1)) = false by simp; omega]; rfl
      rwa [this] at hΨ
  simp only [bls_mapF]
  refine ⟨_, rfl, ?_⟩
  by_cases h1 : false ∈ L.map (validB f l)
  · rw [if_pos h1]
    rw [neverB, all_id, decide_eq_true h1]; rfl
  · rw [if_neg h1]
    have h1' : (L.map (validB f l)).all id = true := by rw [all_id, decide_eq_false h1]; rfl
    refine ⟨by omega, ?_⟩
    refine lc_rng (fun k => .bl (decide (L.getD k 0 < L.getD (k + 1) 0))) (fun k hk Ψ hΨ => ?_) (size_le (by omega)) ?_
    · have b1 := atI_ints (l := L) (i := k) (by omega)
      have b2 := atI_ints (l := L) (i := k + 1) (by omega)
      rw [show ((k + 1 : Nat) : Int) = 1 + (k : Int) by omega] at b2
      simp [elW, show (1 : Int) + k - 1 = k by omega, b1, b2]
      simpa using hΨ
    simp only [bls_mapF]
    refine ⟨_, rfl, ?_⟩
    by_cases h2 : false ∈ (List.range (L.length - 1)).map fun k => decide (L.getD k 0 < L.getD (k + 1) 0)
    · rw [if_pos h2]
      have h2' : ascB L = false := by rw [ascB, all_id, decide_eq_true h2]; rfl
      rw [neverB, h1', h2']; rfl
    · rw [if_neg h2]
      have h2' : ascB L = true := by rw [ascB, all_id, decide_eq_false h2]; rfl
      by_cases h3 : 1 < L.length
      · exact .inr ⟨by omega, by rw [neverB, h1', h2', decide_eq_true h3]; rfl⟩
      · refine .inl ⟨by omega, ?_⟩
        match L, h3 with
        | [], _ => simp [neverB]
        | [x], _ =>
          simp at h1
          have hv : 0 ≤ x ∧ x ≤ (l.length : Int) - 1 := by
            simp [validB] at h1; omega
          obtain ⟨n, rfl⟩ := Int.eq_ofNat_of_zero_le hv.1
          simp
          refine ⟨l, n, by omega, rfl, ?_⟩
          rw [neverB, h1', h2']; rfl
        | _ :: _ :: _, h3 => simp at h3
end DL

set_option Elab.async false
set_option linter.all false
set_option maxRecDepth 100000
set_option maxHeartbeats 4000000
namespace DL
open PySem PySem.Spec PyProof.Rows L2
theorem brk_t {f : Int} {l : List Ent} {i : Nat} (h : (l.getD i z3).2.1 ≠ hold f l i ∨ (0 < i ∧ (l.getD i z3).1 < (l.getD (i - 1) z3).1)) : true = brk f l i := by
  symm
  unfold brk early
  rw [Bool.or_eq_true, Bool.and_eq_true, decide_eq_true_eq, decide_eq_true_eq, decide_eq_true_eq]
  exact h
theorem brk_f {f : Int} {l : List Ent} {i : Nat} (h : (l.getD i z3).2.1 = hold f l i) (h' : 0 < i → ¬ (l.getD i z3).1 < (l.getD (i - 1) z3).1) : false = brk f l i := by
  symm
  unfold brk early
  rw [Bool.or_eq_false_iff, Bool.and_eq_false_iff, decide_eq_false_iff_not, decide_eq_false_iff_not, decide_eq_false_iff_not]
  refine ⟨fun h2 => h2 h, ?_⟩
  by_cases h3 : 0 < i
  · exact .inr (h' h3)
  · exact .inl h3
def judgeP (f : Int) (l : List Ent) : Pp → Bool
  | .w x => (brks f l).isEmpty && decide (x = hold f l l.length)
  | .n b L => b && neverB f l L
  | .m b k e => b && mendB f l k e
def Pp.ok : Pp → Prop
  | .n _ L => L.length ≤ 1000
  | _ => True
def sp_judge_chain : List D → D → Prop := fun ds d => ∃ (f : Int) (l : List Ent) (p : Pp), l.length ≤ 900 ∧ p.ok ∧ ds = [.int f, .lst (l.map eD), p.d] ∧ d = .bl (judgeP f l p)
theorem sp_judge_chain_len : ∀ (ds : List D) (d : D), sp_judge_chain ds d → ds.length = 3 := by rintro _ _ ⟨_, _, _, _, _, rfl, _⟩; rfl
def sem_judge_chain : WS :=
  (sSeq (sIf (wTest (w2 wEq (wCall wLen (wCons (wVar 2) wNil)) (wC (.int 3))))
  (sRet (wAndV (w2 wEq (w2 wIx (wVar 2) (wC (.int 0))) (wC (.str "mend"))) (wFn sp_mends (wCons (wVar 0) (wCons (wVar 1) (wCons (w2 wIx (wVar 2) (wC (.int 1))) (wCons (w2 wIx (wVar 2) (wC (.int 2))) wNil)))))))
  sNext)
  (sSeq (sIf (wTest (w2 wNe (wCall wLen (wCons (wVar 2) wNil)) (wC (.int 2))))
  (sRet (wC (.bl false)))
  sNext)
  (sSeq (sIf (wTest (w2 wEq (w2 wIx (wVar 2) (wC (.int 0))) (wC (.str "whole"))))
  (sRet (wAndV (wNotT (wFn sp_breaks (wCons (wVar 0) (wCons (wVar 1) wNil)))) (w2 wEq (w2 wIx (wVar 2) (wC (.int 1))) (wFn sp_holder_ahead (wCons (wVar 0) (wCons (wVar 1) (wCons (wCall wLen (wCons (wVar 1) wNil)) wNil)))))))
  sNext)
  (sRet (wAndV (w2 wEq (w2 wIx (wVar 2) (wC (.int 0))) (wC (.str "never"))) (wFn sp_are_never (wCons (wVar 0) (wCons (wVar 1) (wCons (w2 wIx (wVar 2) (wC (.int 1))) wNil)))))))))
theorem hf_judge_chain : ∀ (ds : List D) (d : D), sp_judge_chain ds d → sem_judge_chain (startG 3 ds) { nx := fun _ => false = false ∧ d = .non, rt := fun z => z = d } := by
  rintro _ _ ⟨f, l, p, hl, hp, rfl, rfl⟩
  cases p with
  | w x =>
    simp [sem_judge_chain, startG, List.replicate, Pp.d]
    refine use_breaks (by omega) ?_
    cases h : brks f l with
    | nil => simp; exact use_holder (by omega) (by simp [judgeP, h])
    | cons b r => simp [judgeP, h]
  | n b L =>
    cases b with
    | true => simp [sem_judge_chain, startG, List.replicate, Pp.d]; exact ⟨f, l, L, hl, hp, rfl, by simp [judgeP]⟩
    | false => simp [sem_judge_chain, startG, List.replicate, Pp.d, judgeP]
  | m b k e =>
    cases b with
    | true => simp [sem_judge_chain, startG, List.replicate, Pp.d]; exact ⟨f, l, k, e, hl, rfl, by simp [judgeP]⟩
    | false => simp [sem_judge_chain, startG, List.replicate, Pp.d, judgeP]
/-! ### the law's own -/
def sp_law_breaks : List D → D → Prop := sp_breaks
theorem sp_law_breaks_len : ∀ (ds : List D) (d : D), sp_law_breaks ds d → ds.length = 2 := sp_breaks_len
def sem_law_breaks_b1 : WS :=
  (sSeq (sAsg (w2 wIx (wVar 1) (wVar 4)) (gTupD 3 (gsCons (gSet 5) (gsCons (gSet 6) (gsCons (gSet 7) gsNil)))))
  (sSeq (sIf (wOr (wTest (w2 wNe (wVar 6) (wVar 3))) (wAnd (wTest (w2 wGt (wVar 4) (wC (.int 0)))) (wTest (w2 wLt (wVar 5) (w2 wIx (w2 wIx (wVar 1) (w2 wSub (wVar 4) (wC (.int 1)))) (wC (.int 0)))))))
  (sApp 2 (wVar 4))
  sNext)
  (sSet 3 (wVar 7))))
def sem_law_breaks : WS :=
  (sSeq (sOwn 2 (wLst wNil))
  (sSeq (sSet 3 (wVar 0))
  (sSeq (sFor (wItR1 (wCons (wCall wLen (wCons (wVar 1) wNil)) wNil)) (gSet 4)
  sem_law_breaks_b1)
  (sRetV 2))))
theorem hf_law_breaks : ∀ (ds : List D) (d : D), sp_law_breaks ds d → sem_law_breaks (startG 8 ds) { nx := fun _ => false = false ∧ d = .non, rt := fun z => z = d } := by
  rintro _ _ ⟨f, l, hl, rfl, rfl⟩
  simp [sem_law_breaks, startG, List.replicate]
  refine ⟨by omega, for_rng 0 l.length (fun i Γ => ∃ x4 x5 x6 x7 : Option Sl, Γ = [some (.val (.int f)), some (.val (.lst (l.map eD))), some (.own (.lst (((List.range i).filter (brk f l)).map natD))), some (.val (.int (hold f l i))), x4, x5, x6, x7])
    ⟨none, none, none, none, by simp [hold]⟩ ?_ ?_⟩
  · rintro i Γ N hi ⟨x4, x5, x6, x7, rfl⟩ hN
    have h1 := atI_ent hi
    have hlen : ((List.range i).filter (brk f l)).length ≤ 1000000 := by have := List.length_filter_le (brk f l) (List.range i); simp at this; omega
    have hh : hold f l (i + 1) = (l.getD i z3).2.2 := by simp [hold]
    have hr : (List.range (i + 1)).filter (brk f l) = (List.range i).filter (brk f l) ++ if brk f l i = true then [i] else [] := by
      rw [List.range_succ, List.filter_append]; congr 1; by_cases hb : brk f l i = true <;> simp [hb]
    have step : ∀ b : Bool, b = brk f l i → ∀ x4 x5 x6 x7 : Option Sl, N [some (.val (.int f)), some (.val (.lst (l.map eD))), some (.own (.lst (if b = true then ((List.range i).filter (brk f l)).map natD ++ [natD i] else ((List.range i).filter (brk f l)).map natD))), some (.val (.int (l.getD i z3).2.2)), x4, x5, x6, x7] := by
      rintro b hb x4 x5 x6 x7
      refine hN _ ⟨x4, x5, x6, x7, ?_⟩
      rw [hh, hr, ← hb]
      cases b <;> simp
    simp only [sem_law_breaks_b1]
    simp [h1]
    simp [eD]
    have hsz : ((List.range i).filter (brk f l)).length < sizeLine := size_lt hlen
    by_cases c1 : (l.getD i z3).2.1 = hold f l i
    · refine .inl ⟨c1, ?_⟩
      by_cases c2 : 0 < i
      · have h2 := atI_entP (l := l) c2 (by omega)
        refine .inr ⟨c2, _, h2, ?_⟩
        simp [eD]
        by_cases c3 : (l.getD i z3).1 < (l.getD (i - 1) z3).1
        · exact .inr ⟨c3, hsz, by simpa [natD] using step true (brk_t (.inr ⟨c2, c3⟩)) _ _ _ _⟩
        · exact .inl ⟨Int.not_lt.mp c3, by simpa using step false (brk_f c1 fun _ => c3) _ _ _ _⟩
      · exact .inl ⟨by omega, by simpa using step false (brk_f c1 fun h => absurd h c2) _ _ _ _⟩
    · exact .inr ⟨c1, hsz, by simpa [natD] using step true (brk_t (.inl c1)) _ _ _ _⟩
  · rintro Γ ⟨x4, x5, x6, x7, rfl⟩
    simp [brks]
def sp_law_holder : List D → D → Prop := fun ds d => ∃ (f : Int) (l : List Ent) (k : Nat), l.length ≤ 1000 ∧ k ≤ l.length ∧ ds = [.int f, .lst (l.map eD), .int k] ∧ d = .int (hold f l k)
theorem sp_law_holder_len : ∀ (ds : List D) (d : D), sp_law_holder ds d → ds.length = 3 := by rintro _ _ ⟨_, _, _, _, _, rfl, _⟩; rfl
theorem use_law_holder {f : Int} {l : List Ent} {k : Nat} {P : D → Prop} (h' : l.length ≤ 1000) (h : k ≤ l.length) (p : P (.int (hold f l k))) : ∃ r, sp_law_holder [.int f, .lst (l.map eD), .int k] r ∧ P r := ⟨_, ⟨f, l, k, h', h, rfl, rfl⟩, p⟩
theorem use_law_breaks {f : Int} {l : List Ent} {P : D → Prop} (h : l.length ≤ 1000) (p : P (.lst ((brks f l).map natD))) : ∃ r, sp_law_breaks [.int f, .lst (l.map eD)] r ∧ P r := ⟨_, ⟨f, l, h, rfl, rfl⟩, p⟩
def sem_law_holder : WS :=
  (sRet (w2 wIx (w2 wAdd (wLst (wCons (wVar 0) wNil)) (wLc (wItL (wVar 1)) (gSet 3) wYes (w2 wIx (wVar 3) (wC (.int 2))) [3])) (wVar 2)))
theorem hf_law_holder : ∀ (ds : List D) (d : D), sp_law_holder ds d → sem_law_holder (startG 4 ds) { nx := fun _ => false = false ∧ d = .non, rt := fun z => z = d } := by
  rintro _ _ ⟨f, l, k, hl, hk, rfl, rfl⟩
  simp [sem_law_holder, startG, List.replicate, wLc]
  refine lc_map eD (fun e => .int e.2.2) l (fun e he Ψ hΨ => ?_) (size_le (by omega)) ?_
  · simp [elW, eD]; exact hΨ
  · simp
    refine ⟨size_le (by omega), ?_⟩
    refine atI_nat ?_
    cases k with
    | zero => simp [hold]
    | succ k => simp [hold, List.getElem?_eq_getElem (show k < l.length by omega)]
def sp_law_due : List D → D → Prop := fun ds d => ∃ (f : Int) (l : List Ent), l.length ≤ 1000 ∧ ds = [.int f, .lst (l.map eD)] ∧ d = (dueP f l).d
theorem sp_law_due_len : ∀ (ds : List D) (d : D), sp_law_due ds d → ds.length = 2 := by rintro _ _ ⟨_, _, _, rfl, _⟩; rfl
def sem_law_due : WS :=
  (sSeq (sSet 2 (wFn sp_law_breaks (wCons (wVar 0) (wCons (wVar 1) wNil))))
  (sSeq (sIf (wTest (w2 wEq (wCall wLen (wCons (wVar 2) wNil)) (wC (.int 0))))
  (sRet (wTup (wCons (wC (.str "whole")) (wCons (wFn sp_law_holder (wCons (wVar 0) (wCons (wVar 1) (wCons (wCall wLen (wCons (wVar 1) wNil)) wNil)))) wNil))))
  sNext)
  (sSeq (sSet 3 (w2 wIx (wVar 2) (wC (.int 0))))
  (sSeq (sIf (wAnd (wTest (w2 wEq (wCall wLen (wCons (wVar 2) wNil)) (wC (.int 1)))) (wOr (wTest (w2 wEq (wVar 3) (wC (.int 0)))) (wTest (w2 wGe (w2 wIx (w2 wIx (wVar 1) (wVar 3)) (wC (.int 0))) (w2 wIx (w2 wIx (wVar 1) (w2 wSub (wVar 3) (wC (.int 1)))) (wC (.int 0)))))))
  (sRet (wTup (wCons (wC (.str "mend")) (wCons (wVar 3) (wCons (wTup (wCons (w2 wIx (w2 wIx (wVar 1) (wVar 3)) (wC (.int 0))) (wCons (wFn sp_law_holder (wCons (wVar 0) (wCons (wVar 1) (wCons (wVar 3) wNil)))) (wCons (w2 wIx (w2 wIx (wVar 1) (wVar 3)) (wC (.int 1))) wNil)))) wNil)))))
  sNext)
  (sRet (wTup (wCons (wC (.str "never")) (wCons (wVar 2) wNil))))))))
theorem hf_law_due : ∀ (ds : List D) (d : D), sp_law_due ds d → sem_law_due (startG 4 ds) { nx := fun _ => false = false ∧ d = .non, rt := fun z => z = d } := by
  rintro _ _ ⟨f, l, hl, rfl, rfl⟩
  simp [sem_law_due, startG, List.replicate]
  refine use_law_breaks hl ?_
  have hb := brks_lt (f := f) (l := l)
  match e : brks f l, hb with
  | [], _ =>
    simp [dueP, e]
    exact use_law_holder hl (Nat.le_refl _) (by simp [Pp.d])
  | [k], hb =>
    obtain ⟨hk, _⟩ := hb k (by simp)
    have h2 := atI_ent hk
    simp [natD, h2]
    simp [eD]
    split
    · rename_i h0
      exact use_law_holder hl (by omega) (by simp [dueP, e, early, h0, Pp.d, eD])
    · rename_i h0
      refine ⟨_, atI_entP (by omega) (by omega), ?_⟩
      simp [eD]
      by_cases c3 : (l.getD k z3).1 < (l.getD (k - 1) z3).1
      · refine .inl ⟨c3, ?_⟩
        have : early l k = true := by rw [early, decide_eq_true (show 0 < k by omega), decide_eq_true c3]; rfl
        simp [dueP, e, this, Pp.d]
      · refine .inr ⟨Int.not_lt.mp c3, use_law_holder hl (by omega) ?_⟩
        have : early l k = false := by rw [early, decide_eq_false c3]; simp
        simp [dueP, e, this, Pp.d, eD]
  | k1 :: k2 :: ks, hb =>
    simp [natD, dueP, e, Pp.d]
    exact ⟨by omega, fun h => absurd h (by omega)⟩
theorem asc_pw : ∀ {L : List Int}, (∀ k, k + 1 < L.length → L.getD k 0 < L.getD (k + 1) 0) → L.Pairwise (· < ·)
  | [], _ => .nil
  | [x], _ => by simp
  | x :: y :: r, h => by
    have h1 : (y :: r).Pairwise (· < ·) := asc_pw fun k hk => by
      have := h (k + 1) (by simpa using hk)
      simpa using this
    have h0 : x < y := by have := h 0 (by simp); simpa using this
    refine List.pairwise_cons.mpr ⟨fun z hz => ?_, h1⟩
    rcases List.mem_cons.mp hz with rfl | hz
    · exact h0
    · exact Int.lt_trans h0 ((List.pairwise_cons.mp h1).1 z hz)
theorem pw_asc {L : List Int} (h : L.Pairwise (· < ·)) {k : Nat} (hk : k + 1 < L.length) : L.getD k 0 < L.getD (k + 1) 0 := by
  have := List.pairwise_iff_getElem.mp h k (k + 1) (by omega) hk (by omega)
  simpa [List.getD, List.getElem?_eq_getElem (show k < L.length by omega), List.getElem?_eq_getElem hk] using this
theorem asc_iff {L : List Int} : ascB L = true ↔ L.Pairwise (· < ·) := by
  unfold ascB
  rw [List.all_map, List.all_eq_true]
  constructor
  · intro h
    exact asc_pw fun k hk => by have := h k (List.mem_range.mpr (by omega)); exact of_decide_eq_true this
  · intro h k hk
    have hk := List.mem_range.mp hk
    exact decide_eq_true (pw_asc h (by omega))
theorem valid_iff {f : Int} {l : List Ent} {L : List Int} : (L.map (validB f l)).all id = true ↔ ∀ x ∈ L, ∃ k ∈ brks f l, x = (k : Int) := by
  rw [List.all_map, List.all_eq_true]
  refine forall_congr' fun x => forall_congr' fun hx => ?_
  show validB f l x = true ↔ _
  unfold validB
  rw [Bool.and_eq_true, Bool.and_eq_true, decide_eq_true_eq, decide_eq_true_eq]
  constructor
  · rintro ⟨⟨h1, h2⟩, h3⟩
    exact ⟨x.toNat, List.mem_filter.mpr ⟨List.mem_range.mpr (by omega), h3⟩, by omega⟩
  · rintro ⟨k, hk, rfl⟩
    obtain ⟨h1, h2⟩ := brks_lt k hk
    exact ⟨⟨by omega, by omega⟩, by simpa using h2⟩
def subL (f : Int) (l : List Ent) (L : List Int) : List Int := ((brks f l).filter fun (k : Nat) => decide ((k : Int) ∈ L)).map fun (k : Nat) => (k : Int)
theorem brks_pw {f : Int} {l : List Ent} : (brks f l).Pairwise (· < ·) := List.Pairwise.filter _ List.pairwise_lt_range
theorem subL_pw {f : Int} {l : List Ent} {L : List Int} : (subL f l L).Pairwise (· < ·) := by
  unfold subL
  rw [List.pairwise_map]
  exact (List.Pairwise.filter _ brks_pw).imp fun h => by omega
theorem mem_subL {f : Int} {l : List Ent} {L : List Int} {x : Int} : x ∈ subL f l L ↔ x ∈ L ∧ ∃ k ∈ brks f l, x = (k : Int) := by
  unfold subL
  simp only [List.mem_map, List.mem_filter, decide_eq_true_eq]
  constructor
  · rintro ⟨k, ⟨h1, h2⟩, rfl⟩; exact ⟨h2, k, h1, rfl⟩
  · rintro ⟨h1, k, h2, rfl⟩; exact ⟨k, ⟨h2, h1⟩, rfl⟩
theorem sub_iff {f : Int} {l : List Ent} {L : List Int} : ((L.map (validB f l)).all id && ascB L) = true ↔ L = subL f l L := by
  rw [Bool.and_eq_true, valid_iff, asc_iff]
  constructor
  · rintro ⟨h1, h2⟩
    have n1 : L.Nodup := h2.imp fun h => by omega
    have n2 : (subL f l L).Nodup := subL_pw.imp fun h => by omega
    refine PySem.W.ksm_same ((List.perm_ext_iff_of_nodup n1 n2).mpr fun x => ?_) (h2.imp fun h => by omega) (subL_pw.imp fun h => by omega)
    rw [mem_subL]
    exact ⟨fun h => ⟨h, h1 x h⟩, fun h => h.1⟩
  · intro h
    refine ⟨fun x hx => ?_, ?_⟩
    · rw [h] at hx; exact (mem_subL.mp hx).2
    · rw [h]; exact subL_pw
theorem never_eq {f : Int} {l : List Ent} {L : List Int} : neverB f l L = (decide (L = subL f l L) && (decide (1 < L.length) || (decide (L.length = 1) && early l (L.getD 0 0).toNat))) := by
  unfold neverB
  rw [← Bool.and_assoc]
  congr 1
  by_cases h : L = subL f l L
  · rw [decide_eq_true h]; exact sub_iff.mpr h
  · rw [decide_eq_false h]
    cases q : ((L.map (validB f l)).all id && ascB L)
    · rfl
    · exact absurd (sub_iff.mp q) h
def sp_law_accepts : List D → D → Prop := sp_judge_chain
theorem sp_law_accepts_len : ∀ (ds : List D) (d : D), sp_law_accepts ds d → ds.length = 3 := sp_judge_chain_len
def sem_law_accepts : WS :=
  (sSeq (sSet 3 (wFn sp_law_breaks (wCons (wVar 0) (wCons (wVar 1) wNil))))
  (sSeq (sIf (wTest (w2 wEq (wCall wLen (wCons (wVar 2) wNil)) (wC (.int 3))))
  (sSeq (sIf (wOr (wTest (w2 wNe (w2 wIx (wVar 2) (wC (.int 0))) (wC (.str "mend")))) (wOr (wTest (w2 wLt (w2 wIx (wVar 2) (wC (.int 1))) (wC (.int 0)))) (wOr (wTest (w2 wGt (w2 wIx (wVar 2) (wC (.int 1))) (wCall wLen (wCons (wVar 1) wNil)))) (wOr (wTest (w2 wLt (wCall wMinA (wCons (w2 wIx (wVar 2) (wC (.int 2))) wNil)) (wC (.int 0)))) (wTest (w2 wEq (wCall wLen (wCons (wVar 3) wNil)) (wC (.int 0))))))))
  (sRet (wC (.bl false)))
  sNext)
  (sRet (w2 wEq (wCall wLen (wCons (wFn sp_law_breaks (wCons (wVar 0) (wCons (w2 wAdd (w2 wAdd (wSl slL (wVar 1) (wPart (wC (.int 0))) (wPart (w2 wIx (wVar 2) (wC (.int 1))))) (wLst (wCons (w2 wIx (wVar 2) (wC (.int 2))) wNil))) (wSl slL (wVar 1) (wPart (w2 wIx (wVar 2) (wC (.int 1)))) wNoPart)) wNil))) wNil)) (wC (.int 0)))))
  sNext)
  (sSeq (sIf (wTest (w2 wEq (w2 wIx (wVar 2) (wC (.int 0))) (wC (.str "whole"))))
  (sRet (wAndV (w2 wEq (wCall wLen (wCons (wVar 3) wNil)) (wC (.int 0))) (w2 wEq (w2 wIx (wVar 2) (wC (.int 1))) (wFn sp_law_holder (wCons (wVar 0) (wCons (wVar 1) (wCons (wCall wLen (wCons (wVar 1) wNil)) wNil)))))))
  sNext)
  (sSeq (sIf (wOr (wTest (w2 wNe (w2 wIx (wVar 2) (wC (.int 0))) (wC (.str "never")))) (wTest (w2 wNe (w2 wIx (wVar 2) (wC (.int 1))) (wLc (wItL (wVar 3)) (gSet 4) (wTest (w2 wIn (wVar 4) (w2 wIx (wVar 2) (wC (.int 1))))) (wVar 4) [4]))))
  (sRet (wC (.bl false)))
  sNext)
  (sSeq (sIf (wTest (w2 wNe (wCall wLen (wCons (w2 wIx (wVar 2) (wC (.int 1))) wNil)) (wC (.int 1))))
  (sRet (w2 wGt (wCall wLen (wCons (w2 wIx (wVar 2) (wC (.int 1))) wNil)) (wC (.int 1))))
  sNext)
  (sSeq (sSet 4 (w2 wIx (w2 wIx (wVar 2) (wC (.int 1))) (wC (.int 0))))
  (sRet (wAndV (w2 wGt (wVar 4) (wC (.int 0))) (w2 wLt (w2 wIx (w2 wIx (wVar 1) (wVar 4)) (wC (.int 0))) (w2 wIx (w2 wIx (wVar 1) (w2 wSub (wVar 4) (wC (.int 1)))) (wC (.int 0))))))))))))
theorem hf_law_accepts : ∀ (ds : List D) (d : D), sp_law_accepts ds d → sem_law_accepts (startG 5 ds) { nx := fun _ => false = false ∧ d = .non, rt := fun z => z = d } := by
  rintro _ _ ⟨f, l, p, hl, hp, rfl, rfl⟩
  unfold sem_law_accepts
  apply sq
  · intro N hN
    simp [startG, List.replicate]
    refine use_law_breaks (by omega) hN
  have hbl := brks_len (f := f) (l := l)
  cases p with
  | w x =>
    simp [Pp.d]
    cases h : brks f l with
    | nil => simp; exact use_law_holder (by omega) (by omega) (by simp [judgeP, h])
    | cons b r =>
      simp [judgeP, h]
  | n b L =>
    cases b with
    | false => simp [Pp.d, judgeP]
    | true =>
      simp [Pp.d, wLc]
      refine lc_filter natD (fun (k : Nat) => decide ((k : Int) ∈ L)) natD (brks f l) (fun k hk Ψ hΨ => ?_) (size_le (by omega)) ?_
      · simp [elW, natD]
        by_cases hk2 : (k : Int) ∈ L
        · rw [decide_eq_true hk2] at hΨ; exact .inr ⟨hk2, hΨ⟩
        · rw [decide_eq_false hk2] at hΨ; exact .inl ⟨fun x hx e => hk2 (e ▸ hx), hΨ⟩
      · have e : ((brks f l).filter fun (k : Nat) => decide ((k : Int) ∈ L)).map natD = (subL f l L).map .int := by
          unfold subL; rw [List.map_map]; rfl
        rw [e]
        simp [-List.map_map]
        simp only [judgeP, never_eq]
        by_cases hL : L = subL f l L
        · refine .inl ⟨hL, ?_⟩
          rw [decide_eq_true hL]
          match L, hL with
          | [], _ => exact .inr ⟨by simp, by simp⟩
          | [x], hL =>
            refine .inl ⟨by simp, .int x, by simp, ?_⟩
            have hx : x ∈ subL f l [x] := by rw [← hL]; simp
            obtain ⟨n, hn, rfl⟩ := (mem_subL.mp hx).2
            obtain ⟨hn, _⟩ := brks_lt n hn
            simp
            by_cases h0 : 0 < n
            · refine .inr ⟨h0, _, atI_ent hn, ?_⟩
              simp [eD]
              refine ⟨_, atI_entP h0 (by omega), ?_⟩
              simp [eD, early, h0]
            · exact .inl ⟨by omega, by simp [early, h0]⟩
          | x :: y :: r, _ => exact .inr ⟨by simp; omega, by simp; omega⟩
        · exact .inr ⟨hL, by rw [decide_eq_false hL]; rfl⟩
  | m b k e =>
    cases b with
    | false => simp [Pp.d, judgeP]
    | true =>
      simp [Pp.d, -List.map_drop, -List.map_take]
      by_cases hk0 : k < 0
      · exact .inr ⟨hk0, by simp [judgeP, mendB, decide_eq_false (show ¬ 0 ≤ k by omega)]⟩
      · obtain ⟨n, rfl⟩ := Int.eq_ofNat_of_zero_le (show 0 ≤ k by omega)
        refine .inl ⟨by omega, ?_⟩
        by_cases hk1 : (n : Int) ≤ l.length
        · refine .inl ⟨hk1, ?_⟩
          simp only [eD]
          refine ⟨_, ints_ent e, by simp, fun m h1 h2 => ?_⟩
          simp at h1 h2
          have hm := min_pos h1 h2
          simp [-List.map_drop, -List.map_take]
          by_cases hm0 : m < 0
          · refine .inr ⟨hm0, ?_⟩
            rw [decide_eq_false (show ¬ 0 ≤ m by omega)] at hm
            simp [judgeP, mendB, ← hm]
          · refine .inl ⟨by omega, ?_⟩
            rw [decide_eq_true (show 0 ≤ m by omega)] at hm
            by_cases hb : brks f l = []
            · rw [if_pos hb]; simp [judgeP, mendB, hb]
            · rw [if_neg hb]
              have hc : cutD (l.map eD) (some 0) (some (n : Int)) = (l.take n).map eD := by have := cutI_nat eD l 0 n; simpa [-List.map_drop, -List.map_take] using this
              rw [hc, cutI_tail]
              refine ⟨size_le (by simp; omega), size_le (by simp; omega), ?_⟩
              have e1 : (l.take n).map eD ++ D.tup [.int e.1, .int e.2.1, .int e.2.2] :: (l.drop n).map eD = (insE l n e).map eD := by simp [insE, eD]
              rw [e1]
              refine use_law_breaks (by simp [insE]; omega) ?_
              simp [judgeP, mendB, hb, ← hm, hk1]
              cases hq : brks f l with
              | nil => exact absurd hq hb
              | cons a r => cases hq2 : brks f (insE l n e) <;> simp
        · refine .inr ⟨by omega, ?_⟩
          simp [judgeP, mendB, decide_eq_false hk1]
          intro _ h; omega
end DL

set_option Elab.async false
set_option linter.all false
set_option maxRecDepth 100000
set_option maxHeartbeats 4000000
namespace DL
open PySem PySem.Spec PyProof.Rows L2
/-! ### an accepted paper has the word of the verdict -/
def Pp.word : Pp → Str
  | .w _ => "whole"
  | .n b _ => if b then "never" else "holes"
  | .m b _ _ => if b then "mend" else "mended"
theorem ins_lt {l : List Ent} {n k : Nat} {e : Ent} (hn : n ≤ l.length) (h : k < n) : (insE l n e).getD k z3 = l.getD k z3 := by
  unfold insE
  simp only [List.getD, List.append_assoc]
  rw [List.getElem?_append_left (by simp; omega), List.getElem?_take_of_lt h]
theorem ins_eq {l : List Ent} {n : Nat} {e : Ent} (hn : n ≤ l.length) : (insE l n e).getD n z3 = e := by
  unfold insE
  simp only [List.getD, List.append_assoc]
  rw [List.getElem?_append_right (by simp; omega)]
  simp [Nat.min_eq_left hn]
theorem ins_gt {l : List Ent} {n k : Nat} {e : Ent} (hn : n ≤ l.length) (h : n < k) : (insE l n e).getD k z3 = l.getD (k - 1) z3 := by
  unfold insE
  simp only [List.getD, List.append_assoc]
  rw [List.getElem?_append_right (by simp; omega)]
  simp only [List.length_take, Nat.min_eq_left hn]
  obtain ⟨j, rfl⟩ : ∃ j, k = n + 1 + j := ⟨k - n - 1, by omega⟩
  rw [show n + 1 + j - n = j + 1 by omega, show n + 1 + j - 1 = n + j by omega]
  simp
theorem ins_len {l : List Ent} {n : Nat} {e : Ent} : (insE l n e).length = l.length + 1 := by simp [insE]; omega
theorem brk_ins_lt {f : Int} {l : List Ent} {n k : Nat} {e : Ent} (hn : n ≤ l.length) (h : k < n) : brk f (insE l n e) k = brk f l k := by
  unfold brk early hold
  rw [ins_lt hn h]
  by_cases h0 : k = 0
  · simp [h0]
  · rw [ins_lt hn (show k - 1 < n by omega)]
theorem brk_ins_gt {f : Int} {l : List Ent} {n k : Nat} {e : Ent} (hn : n ≤ l.length) (h : n < k) : brk f (insE l n e) (k + 1) = brk f l k := by
  unfold brk early hold
  rw [ins_gt hn (show n < k + 1 by omega), show k + 1 - 1 = k by omega, ins_gt hn h]
  simp [show k ≠ 0 by omega, show 0 < k by omega]
theorem mend_only {f : Int} {l : List Ent} {n : Nat} {e : Ent} (hn : n ≤ l.length) (h1 : brks f l ≠ []) (h2 : brks f (insE l n e) = []) : brks f l = [n] ∧ early l n = false := by
  have hno : ∀ k, k < l.length + 1 → brk f (insE l n e) k = false := fun k hk => by
    cases q : brk f (insE l n e) k with
    | false => rfl
    | true =>
      have : k ∈ brks f (insE l n e) := List.mem_filter.mpr ⟨List.mem_range.mpr (by rw [ins_len]; exact hk), q⟩
      rw [h2] at this; cases this
  have hall : ∀ k ∈ brks f l, k = n := fun k hk => by
    obtain ⟨h3, h4⟩ := brks_lt k hk
    rcases Nat.lt_trichotomy k n with h | h | h
    · rw [← brk_ins_lt (e := e) hn h, hno k (by omega)] at h4; cases h4
    · exact h
    · rw [← brk_ins_gt (e := e) hn h, hno (k + 1) (by omega)] at h4; cases h4
  have hb : brks f l = [n] := by
    match q : brks f l, h1, hall, brks_pw (f := f) (l := l) with
    | [a], _, hall, _ => rw [hall a (by simp)]
    | a :: b :: r, _, hall, pw =>
      have e1 := hall a (by simp)
      have e2 := hall b (by simp)
      have := (List.pairwise_cons.mp pw).1 b (by simp)
      omega
  refine ⟨hb, ?_⟩
  have hlt : n < l.length := (brks_lt n (by rw [hb]; simp)).1
  cases q : early l n with
  | false => rfl
  | true =>
    simp only [early, Bool.and_eq_true, decide_eq_true_eq] at q
    have a1 := hno n (by omega)
    have a2 := hno (n + 1) (by omega)
    unfold brk early at a1 a2
    rw [ins_eq hn, ins_lt hn (show n - 1 < n by omega)] at a1
    rw [ins_gt hn (show n < n + 1 by omega), show n + 1 - 1 = n by omega, ins_eq hn] at a2
    simp only [Bool.or_eq_false_iff, Bool.and_eq_false_iff, decide_eq_false_iff_not] at a1 a2
    omega
theorem judge_word {f : Int} {l : List Ent} {p : Pp} (h : judgeP f l p = true) : p.word = (dueP f l).word := by
  cases p with
  | w x =>
    simp [judgeP] at h
    simp [dueP, h.1, Pp.word]
  | n b L =>
    cases b with
    | false => simp [judgeP] at h
    | true =>
      simp only [judgeP, Bool.true_and, never_eq, Bool.and_eq_true, decide_eq_true_eq, Bool.or_eq_true] at h
      obtain ⟨h1, h2⟩ := h
      have hlen : L.length ≤ (brks f l).length := by
        rw [h1]; unfold subL; rw [List.length_map]; exact List.length_filter_le _ _
      match q : brks f l, hlen with
      | [], hlen => simp at hlen; subst hlen; simp at h2
      | [k], hlen =>
        simp at hlen
        rcases h2 with h2 | ⟨h2, h3⟩
        · omega
        · match L, h2 with
          | [x], _ =>
            have hx : x ∈ subL f l [x] := by rw [← h1]; simp
            obtain ⟨j, hj, rfl⟩ := (mem_subL.mp hx).2
            rw [q] at hj
            simp at hj
            subst hj
            simp at h3
            simp [dueP, q, h3, Pp.word]
      | k1 :: k2 :: ks, _ => simp [dueP, q, Pp.word]
  | m b k e =>
    cases b with
    | false => simp [judgeP] at h
    | true =>
      simp only [judgeP, mendB, Bool.true_and, Bool.and_eq_true, decide_eq_true_eq] at h
      obtain ⟨⟨⟨h1, h2, h3⟩, h4⟩, h5⟩ := h
      obtain ⟨n, rfl⟩ := Int.eq_ofNat_of_zero_le h2
      obtain ⟨a1, a2⟩ := mend_only (e := e) (show n ≤ l.length by omega) (by simpa using h1) (by simpa using h5)
      simp [dueP, a1, a2, Pp.word]
/-! ### papers -/
def ent7 (d h g : Int) : List Ent := [(d, h, g), (d + 1, h, g), (d - 1, h, g), (0, h, g), (-1, h, g), (d, g, h), (d, h, g + 1)]
def sem_law_papers_b1 : WS :=
  (sFor (wItL (wLst (wCons (wTup (wCons (wVar 10) (wCons (wVar 9) (wCons (wVar 11) wNil)))) (wCons (wTup (wCons (w2 wAdd (wVar 10) (wC (.int 1))) (wCons (wVar 9) (wCons (wVar 11) wNil)))) (wCons (wTup (wCons (w2 wSub (wVar 10) (wC (.int 1))) (wCons (wVar 9) (wCons (wVar 11) wNil)))) (wCons (wTup (wCons (wC (.int 0)) (wCons (wVar 9) (wCons (wVar 11) wNil)))) (wCons (wTup (wCons (w1 wNeg (wC (.int 1))) (wCons (wVar 9) (wCons (wVar 11) wNil)))) (wCons (wTup (wCons (wVar 10) (wCons (wVar 11) (wCons (wVar 9) wNil)))) (wCons (wTup (wCons (wVar 10) (wCons (wVar 9) (wCons (w2 wAdd (wVar 11) (wC (.int 1))) wNil)))) wNil))))))))) (gSet 13)
  (sApp 7 (wTup (wCons (wC (.str "mend")) (wCons (wVar 12) (wCons (wVar 13) wNil))))))
def sem_law_papers_b2 : WS :=
  (sSeq (sSet 9 (wFn sp_law_holder (wCons (wVar 0) (wCons (wVar 1) (wCons (wVar 8) wNil)))))
  (sSeq (sSet 10 (w2 wIx (w2 wAdd (wLc (wItL (wVar 1)) (gSet 13) wYes (w2 wIx (wVar 13) (wC (.int 0))) [13]) (wLst (wCons (w2 wPow (wC (.int 10)) (wC (.int 9))) wNil))) (wVar 8)))
  (sSeq (sSet 11 (w2 wIx (w2 wAdd (wLc (wItL (wVar 1)) (gSet 13) wYes (w2 wIx (wVar 13) (wC (.int 1))) [13]) (wLst (wCons (wVar 6) wNil))) (wVar 8)))
  (sFor (wItL (wLst (wCons (wVar 8) (wCons (w2 wSub (wVar 8) (wC (.int 1))) (wCons (w2 wAdd (wVar 8) (wC (.int 1))) wNil))))) (gSet 12)
  sem_law_papers_b1))))
theorem pb1 {x0 x1 x2 x3 x4 x5 x6 x8 x13 : Option Sl} {κ : DK} (acc : List Pp) (h d g a : Int) (hacc : acc.length + 7 ≤ 1000000)
    (hN : ∀ y : Option Sl, κ.nx [x0, x1, x2, x3, x4, x5, x6, some (.own (.lst ((acc ++ (ent7 d h g).map (Pp.m true a)).map Pp.d))), x8, some (.val (.int h)), some (.val (.int d)), some (.val (.int g)), some (.val (.int a)), y]) :
    sem_law_papers_b1 [x0, x1, x2, x3, x4, x5, x6, some (.own (.lst (acc.map Pp.d))), x8, some (.val (.int h)), some (.val (.int d)), some (.val (.int g)), some (.val (.int a)), x13] κ := by
  simp [ent7, Pp.d, eD] at hN
  have hs : ∀ j, j < 7 → acc.length + j < sizeLine := fun j hj => size_lt (by omega)
  have h0 := hs 0 (by omega)
  have h1 := hs 1 (by omega)
  have h2 := hs 2 (by omega)
  have h3 := hs 3 (by omega)
  have h4 := hs 4 (by omega)
  have h5 := hs 5 (by omega)
  have h6 := hs 6 (by omega)
  simp at h0
  simp [sem_law_papers_b1, forGo, h0, h1, h2, h3, h4, h5, h6]
  exact hN _
def dayN (l : List Ent) (k : Nat) : Int := (l.map (fun e : Ent => e.1) ++ [1000000000]).getD k 0
def giverN (f : Int) (l : List Ent) (k : Nat) : Int := (l.map (fun e : Ent => e.2.1) ++ [hold f l l.length]).getD k 0
def at3 (k : Int) : List Int := [k, k - 1, k + 1]
def forK (f : Int) (l : List Ent) (k : Nat) : List Pp := (at3 k).flatMap fun a => (ent7 (dayN l k) (hold f l k) (giverN f l k)).map (Pp.m true a)
theorem forK_len (f : Int) (l : List Ent) (k : Nat) : (forK f l k).length = 21 := by simp [forK, at3, ent7]
theorem pb2 {dr : List Int} {f : Int} {l : List Ent} {x2 x4 x5 x9 x10 x11 x12 x13 : Option Sl} {κ : DK} (acc : List Pp) (k : Nat) (hl : l.length ≤ 900) (hk : k ≤ l.length) (hacc : acc.length + 21 ≤ 1000000)
    (hN : ∀ y9 y10 y11 y12 y13 : Option Sl, κ.nx [some (.val (.int f)), some (.val (.lst (l.map eD))), x2, some (.val (.lst (dr.map .int))), x4, x5, some (.val (.int (hold f l l.length))), some (.own (.lst ((acc ++ forK f l k).map Pp.d))), some (.val (.int k)), y9, y10, y11, y12, y13]) :
    sem_law_papers_b2 [some (.val (.int f)), some (.val (.lst (l.map eD))), x2, some (.val (.lst (dr.map .int))), x4, x5, some (.val (.int (hold f l l.length))), some (.own (.lst (acc.map Pp.d))), some (.val (.int k)), x9, x10, x11, x12, x13] κ := by
  unfold sem_law_papers_b2
  apply sq
  · intro N hN
    simp
    exact use_law_holder (by omega) hk hN
  have hsz : 1 ≤ sizeLine := size_le (by omega)
  apply sq
  · intro N hN
    simp [wLc]
    refine lc_map eD (fun e => .int e.1) l (fun e he Ψ hΨ => ?_) (size_le (by omega)) ?_
    · simp [elW, eD]; exact hΨ
    · simp [CPow]
      refine ⟨size_le (by omega), .int (dayN l k), ?_, hN⟩
      have := atI_ints (l := l.map (fun e : Ent => e.1) ++ [1000000000]) (i := k) (by simp; omega)
      simpa [dayN, Function.comp_def] using this
  apply sq
  · intro N hN
    simp [wLc]
    refine lc_map eD (fun e => .int e.2.1) l (fun e he Ψ hΨ => ?_) (size_le (by omega)) ?_
    · simp [elW, eD]; exact hΨ
    · simp
      refine ⟨size_le (by omega), .int (giverN f l k), ?_, hN⟩
      have := atI_ints (l := l.map (fun e : Ent => e.2.1) ++ [hold f l l.length]) (i := k) (by simp; omega)
      simpa [giverN, Function.comp_def] using this
  simp [forGo]
  refine pb1 acc _ _ _ _ (by omega) fun y => ?_
  simp only [List.set]
  refine pb1 _ _ _ _ _ (by simp [ent7]; omega) fun y => ?_
  simp only [List.set]
  refine pb1 _ _ _ _ _ (by simp [ent7]; omega) fun y => ?_
  have := hN (some (.val (.int (hold f l k)))) (some (.val (.int (dayN l k)))) (some (.val (.int (giverN f l k)))) (some (.val (.int ((k : Int) + 1)))) y
  simpa [forK, at3] using this
def baseP (f : Int) (l : List Ent) (due : Pp) : List Pp :=
  [due, .w (hold f l l.length), .w f, .n true ((brks f l).map fun (k : Nat) => (k : Int)), .n true (((brks f l).map fun (k : Nat) => (k : Int)).take 1), .n true (((brks f l).map fun (k : Nat) => (k : Int)).drop 1), .n true ((brks f l).map fun (k : Nat) => (k : Int)).reverse, .n true (((brks f l).map fun (k : Nat) => (k : Int)) ++ [(l.length : Int)]), .n true (-1 :: (brks f l).map fun (k : Nat) => (k : Int)),
   .n true ((List.range l.length).map fun (k : Nat) => (k : Int)), .n true [(l.length : Int) - 1], .n false ((brks f l).map fun (k : Nat) => (k : Int)), .m false l.length (1000000000, hold f l l.length, hold f l l.length)]
def papersL (f : Int) (l : List Ent) (due : Pp) (d0 : Int) : List Pp := baseP f l due ++ (brks f l ++ [(d0 % l.length).toNat, l.length]).flatMap (forK f l)
def sp_law_papers : List D → D → Prop := fun ds d => ∃ (f : Int) (l : List Ent) (due : Pp) (dr : List Int), 0 < l.length ∧ l.length ≤ 900 ∧ 0 < dr.length ∧ ds = [.int f, .lst (l.map eD), due.d, .lst (dr.map .int)] ∧ d = .lst ((papersL f l due (dr.getD 0 0)).map Pp.d)
theorem sp_law_papers_len : ∀ (ds : List D) (d : D), sp_law_papers ds d → ds.length = 4 := by rintro _ _ ⟨_, _, _, _, _, _, _, rfl, _⟩; rfl
def sem_law_papers : WS :=
  (sSeq (sSet 4 (wCall wLen (wCons (wVar 1) wNil)))
  (sSeq (sSet 5 (wFn sp_law_breaks (wCons (wVar 0) (wCons (wVar 1) wNil))))
  (sSeq (sSet 6 (wFn sp_law_holder (wCons (wVar 0) (wCons (wVar 1) (wCons (wVar 4) wNil)))))
  (sSeq (sOwn 7 (wLst (wCons (wVar 2) (wCons (wTup (wCons (wC (.str "whole")) (wCons (wVar 6) wNil))) (wCons (wTup (wCons (wC (.str "whole")) (wCons (wVar 0) wNil))) (wCons (wTup (wCons (wC (.str "never")) (wCons (wVar 5) wNil))) (wCons (wTup (wCons (wC (.str "never")) (wCons (wSl slL (wVar 5) (wPart (wC (.int 0))) (wPart (wC (.int 1)))) wNil))) (wCons (wTup (wCons (wC (.str "never")) (wCons (wSl slL (wVar 5) (wPart (wC (.int 1))) wNoPart) wNil))) (wCons (wTup (wCons (wC (.str "never")) (wCons (w1 wRev (wVar 5)) wNil))) (wCons (wTup (wCons (wC (.str "never")) (wCons (w2 wAdd (wVar 5) (wLst (wCons (wVar 4) wNil))) wNil))) (wCons (wTup (wCons (wC (.str "never")) (wCons (w2 wAdd (wLst (wCons (w1 wNeg (wC (.int 1))) wNil)) (wVar 5)) wNil))) wNil)))))))))))
  (sSeq (sOwn 7 (w2 wCat (wBor 7) (wLst (wCons (wTup (wCons (wC (.str "never")) (wCons (wRg .lst (wCons (wVar 4) wNil)) wNil))) (wCons (wTup (wCons (wC (.str "never")) (wCons (wLst (wCons (w2 wSub (wVar 4) (wC (.int 1))) wNil)) wNil))) (wCons (wTup (wCons (wC (.str "holes")) (wCons (wVar 5) wNil))) (wCons (wTup (wCons (wC (.str "mended")) (wCons (wVar 4) (wCons (wTup (wCons (w2 wPow (wC (.int 10)) (wC (.int 9))) (wCons (wVar 6) (wCons (wVar 6) wNil)))) wNil)))) wNil)))))))
  (sSeq (sFor (wItL (w2 wAdd (wVar 5) (wLst (wCons (w2 wMod (w2 wIx (wVar 3) (wC (.int 0))) (wVar 4)) (wCons (wVar 4) wNil))))) (gSet 8)
  sem_law_papers_b2)
  (sRetV 7)))))))
theorem hf_law_papers : ∀ (ds : List D) (d : D), sp_law_papers ds d → sem_law_papers (startG 14 ds) { nx := fun _ => false = false ∧ d = .non, rt := fun z => z = d } := by
  rintro _ _ ⟨f, l, due, dr, hl0, hl, hdr, rfl, rfl⟩
  have hbl := brks_len (f := f) (l := l)
  unfold sem_law_papers
  simp only [startG, List.map, List.replicate, List.length, List.append, List.cons_append, List.nil_append, Nat.reduceSub, Nat.reduceAdd]
  apply sq
  · intro N hN; simp; exact hN
  apply sq
  · intro N hN; simp; exact use_law_breaks (by omega) hN
  apply sq
  · intro N hN; simp; exact use_law_holder (by omega) (Nat.le_refl _) hN
  have ec1 : cutD ((brks f l).map natD) (some 0) (some 1) = ((brks f l).take 1).map natD := by have := cutI_nat natD (brks f l) 0 1; simpa [-List.map_take, -List.map_drop] using this
  have ec2 : cutD ((brks f l).map natD) (some 1) none = ((brks f l).drop 1).map natD := cutI_tail natD (brks f l) 1
  apply sq
  · intro N hN
    simp [ec1, ec2, -List.map_drop, -List.map_take]
    exact ⟨size_le (by omega), size_le (by omega), hN⟩
  have h9 : 9 + 4 ≤ sizeLine := size_le (by omega)
  apply sq
  · intro N hN
    simp [CPow, show (l.length : Int) ≤ 16777216 by omega, show l.length ≤ 16777216 by omega]
    exact hN
  have hnat : natD = (D.int ∘ fun (k : Nat) => (k : Int)) := rfl
  obtain ⟨m, hm, hml⟩ : ∃ m : Nat, dr.getD 0 0 % l.length = (m : Int) ∧ m < l.length := by
    have h1 := Int.emod_nonneg (dr.getD 0 0) (show (l.length : Int) ≠ 0 by omega)
    have h2 := Int.emod_lt_of_pos (dr.getD 0 0) (show 0 < (l.length : Int) by omega)
    exact ⟨(dr.getD 0 0 % l.length).toNat, by omega, by omega⟩
  have hd0 := atI_ints (l := dr) (i := 0) (by omega)
  simp only [Int.natCast_zero] at hd0
  generalize dr.getD 0 0 = d0 at *
  have hks : ∀ k ∈ brks f l ++ [m, l.length], k ≤ l.length := by
    intro k hk
    simp at hk
    rcases hk with hk | rfl | rfl
    · have := (brks_lt k hk).1; omega
    · omega
    · omega
  refine sqP (fun Γ => ∃ x8 x9 x10 x11 x12 x13 : Option Sl, Γ = [some (.val (.int f)), some (.val (.lst (l.map eD))), some (.val due.d), some (.val (.lst (dr.map .int))), some (.val (.int l.length)), some (.val (.lst ((brks f l).map natD))), some (.val (.int (hold f l l.length))), some (.own (.lst ((papersL f l due d0).map Pp.d))), x8, x9, x10, x11, x12, x13]) ?_ ?_
  · intro N hN
    simp
    refine ⟨_, hd0, ?_⟩
    simp [hm]
    refine ⟨by omega, size_le (by omega), ?_⟩
    rw [show (brks f l).map natD ++ [D.int (m : Int), D.int (l.length : Int)] = (brks f l ++ [m, l.length]).map natD by simp [natD]]
    refine for_list natD (fun i Γ => ∃ x8 x9 x10 x11 x12 x13 : Option Sl, Γ = [some (.val (.int f)), some (.val (.lst (l.map eD))), some (.val due.d), some (.val (.lst (dr.map .int))), some (.val (.int l.length)), some (.val (.lst ((brks f l).map natD))), some (.val (.int (hold f l l.length))), some (.own (.lst ((baseP f l due ++ ((brks f l ++ [m, l.length]).take i).flatMap (forK f l)).map Pp.d))), x8, x9, x10, x11, x12, x13]) (brks f l ++ [m, l.length])
      ⟨none, none, none, none, none, none, by simp [baseP, Pp.d, hnat, rngD, Function.comp_def, eD]⟩ ?_ ?_
    · rintro i k Γ N ha ⟨x8, x9, x10, x11, x12, x13, rfl⟩ hN
      have hi : i < (brks f l ++ [m, l.length]).length := (List.getElem?_eq_some_iff.mp ha).1
      have hk : k ≤ l.length := hks k (List.mem_of_getElem? ha)
      have hlen : (((brks f l ++ [m, l.length]).take i).flatMap (forK f l)).length ≤ 21 * 1000 := by
        rw [List.length_flatMap]
        have : ∀ q : List Nat, (q.map fun k => (forK f l k).length).sum = 21 * q.length := fun q => by
          induction q with
          | nil => rfl
          | cons a r ih => simp [forK_len] at ih ⊢; omega
        rw [this]
        simp at hi ⊢; omega
      simp only [gSet, natD, List.set]
      refine pb2 (baseP f l due ++ ((brks f l ++ [m, l.length]).take i).flatMap (forK f l)) k hl hk (by rw [List.length_append, show (baseP f l due).length = 13 from rfl]; omega) fun y9 y10 y11 y12 y13 => hN _ ⟨some (.val (.int k)), y9, y10, y11, y12, y13, ?_⟩
      rw [List.take_add_one, ha]
      simp
    · rintro Γ ⟨x8, x9, x10, x11, x12, x13, rfl⟩
      refine hN _ ⟨x8, x9, x10, x11, x12, x13, ?_⟩
      rw [List.take_length]
      simp only [papersL, hm, Int.toNat_natCast]
  rintro Γ ⟨x8, x9, x10, x11, x12, x13, rfl⟩
  simp
end DL

set_option Elab.async false
set_option linter.all false
set_option maxRecDepth 100000
set_option maxHeartbeats 4000000
namespace DL
open PySem PySem.Spec PyProof.Rows L2
theorem pp_head (p : Pp) : ∃ rest, p.d = .tup (.str p.word :: rest) := by
  cases p with
  | w x => exact ⟨_, rfl⟩
  | n b L => exact ⟨_, rfl⟩
  | m b k e => exact ⟨_, rfl⟩
theorem pp_ok {f : Int} {l : List Ent} {due : Pp} {d0 : Int} (hl : l.length ≤ 900) (hd : due.ok) : ∀ p ∈ papersL f l due d0, p.ok := by
  have hbl := brks_len (f := f) (l := l)
  intro p hp
  unfold papersL at hp
  rcases List.mem_append.mp hp with hp | hp
  · simp only [baseP, List.mem_cons, List.not_mem_nil, or_false] at hp
    rcases hp with rfl | rfl | rfl | rfl | rfl | rfl | rfl | rfl | rfl | rfl | rfl | rfl | rfl <;> first | exact hd | trivial | (simp [Pp.ok]; done) | (simp [Pp.ok]; omega)
  · obtain ⟨k, _, hp⟩ := List.mem_flatMap.mp hp
    unfold forK at hp
    obtain ⟨a, _, hp⟩ := List.mem_flatMap.mp hp
    obtain ⟨e, _, rfl⟩ := List.mem_map.mp hp
    trivial
theorem due_ok {f : Int} {l : List Ent} (hl : l.length ≤ 900) : (dueP f l).ok := by
  have hbl := brks_len (f := f) (l := l)
  unfold dueP
  split
  · trivial
  · split
    · simp [Pp.ok]
    · trivial
  · simp [Pp.ok]; rename_i h; omega
theorem word_ok (p : Pp) : PyData.strOk p.word = true := by
  cases p with
  | w x => simp [Pp.word]
  | n b L => cases b <;> simp [Pp.word]
  | m b k e => cases b <;> simp [Pp.word]
theorem sm_due {f : Int} {l : List Ent} (hl : l.length ≤ 900) : sm 8 (dueP f l).d = true := by
  have hbl := brks_len (f := f) (l := l)
  unfold dueP
  split
  · simp [Pp.d]
  · split
    · simp [Pp.d]
    · simp [Pp.d, eD]
  · simp [Pp.d]; rename_i h; omega
theorem shp_ents (n : Nat) (l : List Ent) : shp (n + 2) (.lst (l.map eD)) = true := by simp [shp, eD]
theorem deq_ent (a b : Ent) : deq (eD a) (eD b) = decide (a = b) := by
  obtain ⟨a1, a2, a3⟩ := a
  obtain ⟨b1, b2, b3⟩ := b
  simp [eD]
theorem deq_ents (l m : List Ent) : deqL (l.map eD) (m.map eD) = decide (l = m) := deqL_map deq_ent l m
def sp_law_chain_holds : List D → D → Prop := fun ds d => ∃ (f : Int) (l : List Ent) (dr : List Int), 0 < l.length ∧ l.length ≤ 900 ∧ 0 < dr.length ∧ ds = [.int f, .lst (l.map eD), .lst (dr.map .int)] ∧ d = .bl true
theorem sp_law_chain_holds_len : ∀ (ds : List D) (d : D), sp_law_chain_holds ds d → ds.length = 3 := by rintro _ _ ⟨_, _, _, _, _, _, rfl, _⟩; rfl
def sem_law_chain_holds_b1 : WS :=
  (sSeq (sSet 6 (wFn sp_judge_chain (wCons (wVar 0) (wCons (wVar 3) (wCons (wVar 5) wNil)))))
  (sIf (wOr (wNot (wTru (wFn sp_law_says (wCons (wVar 6) (wCons (wFn sp_law_accepts (wCons (wVar 0) (wCons (wVar 1) (wCons (wVar 5) wNil)))) wNil))))) (wAnd (wTru (wVar 6)) (wTest (w2 wNe (w2 wIx (wVar 5) (wC (.int 0))) (w2 wIx (wVar 4) (wC (.int 0)))))))
  (sRet (wC (.bl false)))
  sNext))
def sem_law_chain_holds : WS :=
  (sSeq (sSet 3 (wCall wList (wCons (wVar 1) wNil)))
  (sSeq (sSet 4 (wFn sp_law_due (wCons (wVar 0) (wCons (wVar 1) wNil))))
  (sSeq (sIf (wOr (wNot (wTru (wFn sp_law_same (wCons (wFn sp_breaks (wCons (wVar 0) (wCons (wVar 3) wNil))) (wCons (wFn sp_law_breaks (wCons (wVar 0) (wCons (wVar 1) wNil))) wNil))))) (wOr (wNot (wTru (wFn sp_law_same (wCons (wFn sp_find_chain (wCons (wVar 0) (wCons (wVar 3) wNil))) (wCons (wVar 4) wNil))))) (wTest (w2 wNe (wVar 3) (wVar 1)))))
  (sRet (wC (.bl false)))
  sNext)
  (sSeq (sFor (wItL (wFn sp_law_papers (wCons (wVar 0) (wCons (wVar 1) (wCons (wVar 4) (wCons (wVar 2) wNil)))))) (gSet 5)
  sem_law_chain_holds_b1)
  (sRet (w2 wEq (wVar 3) (wVar 1)))))))
theorem hf_law_chain_holds : ∀ (ds : List D) (d : D), sp_law_chain_holds ds d → sem_law_chain_holds (startG 7 ds) { nx := fun _ => false = false ∧ d = .non, rt := fun z => z = d } := by
  rintro _ _ ⟨f, l, dr, hl0, hl, hdr, rfl, rfl⟩
  have hbl := brks_len (f := f) (l := l)
  have hnat : (brks f l).map natD = ((brks f l).map fun (k : Nat) => (k : Int)).map D.int := by rw [List.map_map]; rfl
  have hse : (l.map eD).all (shp 8) = true := by simp [shp, eD]
  unfold sem_law_chain_holds
  simp only [startG, List.map, List.replicate, List.length, List.append, List.cons_append, List.nil_append, Nat.reduceSub, Nat.reduceAdd]
  apply sq
  · intro N hN; simp; exact hN
  apply sq
  · intro N hN; simp; exact ⟨_, ⟨f, l, by omega, rfl, rfl⟩, hN⟩
  apply sq
  · intro N hN
    simp only [sIf, wOr, wNot, wTru, wFn, wCons, wVar, wNil, wTest, w2]
    simp
    refine use_breaks (by omega) (use_law_breaks (by omega) ?_)
    rw [hnat]
    simp [-List.map_map]
    refine ⟨by omega, _, ⟨f, l, by omega, rfl, rfl⟩, ?_⟩
    simp [sm_due hl, deq_ents]
    exact ⟨by simp [eD], hN⟩
  refine sqP (fun Γ => ∃ x5 x6 : Option Sl, Γ = [some (.val (.int f)), some (.val (.lst (l.map eD))), some (.val (.lst (dr.map .int))), some (.val (.lst (l.map eD))), some (.val (dueP f l).d), x5, x6]) ?_ ?_
  · intro N hN
    simp
    refine ⟨_, ⟨f, l, dueP f l, dr, hl0, hl, hdr, rfl, rfl⟩, ?_⟩
    refine for_list Pp.d (fun i Γ => ∃ x5 x6 : Option Sl, Γ = [some (.val (.int f)), some (.val (.lst (l.map eD))), some (.val (.lst (dr.map .int))), some (.val (.lst (l.map eD))), some (.val (dueP f l).d), x5, x6]) _ ⟨none, none, rfl⟩ ?_ ?_
    · rintro i p Γ N ha ⟨x5, x6, rfl⟩ hN
      have hp : p.ok := pp_ok hl (due_ok hl) p (List.mem_of_getElem? ha)
      simp [sem_law_chain_holds_b1]
      refine ⟨_, ⟨f, l, p, hl, hp, rfl, rfl⟩, _, ⟨f, l, p, hl, hp, rfl, rfl⟩, ?_⟩
      simp
      cases hj : judgeP f l p with
      | false => simp; exact hN _ ⟨_, _, rfl⟩
      | true =>
        obtain ⟨r1, e1⟩ := pp_head p
        obtain ⟨r2, e2⟩ := pp_head (dueP f l)
        have hw := judge_word hj
        simp [e1, e2, word_ok, hw]
        have := hN _ ⟨some (.val p.d), some (.val (.bl true)), rfl⟩
        rw [e1, e2, hw] at this
        exact this
    · rintro Γ ⟨x5, x6, rfl⟩
      exact hN _ ⟨_, _, rfl⟩
  rintro Γ ⟨x5, x6, rfl⟩
  simp [deq_ents]
  simp [eD]
end DL

set_option Elab.async false
set_option linter.all false
set_option maxRecDepth 100000
set_option maxHeartbeats 4000000
namespace DL
open PySem PySem.Spec PyProof.Rows L2
def mE (A : List Int) : Int := if gd A 0 % 2 = 0 then 1 else 200000
def pE (ns A : List Int) : List Int := (List.range 6).map fun (k : Nat) => gd (drawsL ns 1 6) k * mE A + k
def fE (ns A : List Int) : Int := gd (pE ns A) (gd A 1 % 6).toNat
def gE (A : List Int) : Int := if gd A 4 % 3 = 0 then 1 else if gd A 4 % 3 = 1 then 3 else 700
def incE (ns A : List Int) (k : Nat) : Int := gd (drawsL ns 2 40) k % gE A
def tkE (ns A : List Int) (k : Nat) : Int := gd (pE ns A) (gd (drawsL ns 2 40) k / 7 % 6).toNat
def nE (A : List Int) : Nat := (9 + gd A 3 % 32).toNat
def dayE (ns A : List Int) (k : Nat) : Int := gd A 2 % 3 + ((List.range k).map (incE ns A)).sum
def hE (ns A : List Int) (k : Nat) : Int := if k = 0 then fE ns A else tkE ns A (k - 1)
def entE (ns A : List Int) (k : Nat) : Ent := (dayE ns A (k + 1), hE ns A k, tkE ns A k)
def entsE (ns A : List Int) : List Ent := (List.range (nE A)).map (entE ns A)
def sp_law_entries : List D → D → Prop := fun ds d => ∃ ns A : List Int, A.length = 20 ∧ (∀ x ∈ A, 0 ≤ x ∧ x < 5040) ∧ ds = [.scr ns, .lst (A.map .int)] ∧ d = .tup [.int (fE ns A), .lst ((entsE ns A).map eD), .lst ((pE ns A).map .int)]
theorem sp_law_entries_len : ∀ (ds : List D) (d : D), sp_law_entries ds d → ds.length = 2 := by rintro _ _ ⟨_, _, _, _, rfl, _⟩; rfl
def sem_law_entries_b1 : WS :=
  (sSeq (sSet 7 (w2 wAdd (wVar 7) (w2 wMod (w2 wIx (wVar 3) (wVar 8)) (w2 wIx (wLst (wCons (wC (.int 1)) (wCons (wC (.int 3)) (wCons (wC (.int 700)) wNil)))) (w2 wMod (w2 wIx (wVar 1) (wC (.int 4))) (wC (.int 3)))))))
  (sSeq (sSet 9 (w2 wIx (wVar 2) (w2 wMod (w2 wDiv (w2 wIx (wVar 3) (wVar 8)) (wC (.int 7))) (wC (.int 6)))))
  (sSeq (sApp 5 (wTup (wCons (wVar 7) (wCons (wVar 6) (wCons (wVar 9) wNil)))))
  (sSet 6 (wVar 9)))))
def sem_law_entries : WS :=
  (sSeq (sSet 2 (wLc (wItE (wCons (wFn sp_law_draws (wCons (wVar 0) (wCons (wC (.int 1)) (wCons (wC (.int 6)) wNil)))) wNil)) (gTupD 2 (gsCons (gSet 8) (gsCons (gSet 10) gsNil))) wYes (w2 wAdd (w2 wMul (wVar 10) (w2 wIx (wLst (wCons (wC (.int 1)) (wCons (wC (.int 200000)) wNil))) (w2 wMod (w2 wIx (wVar 1) (wC (.int 0))) (wC (.int 2))))) (wVar 8)) [8, 10]))
  (sSeq (sSet 3 (wFn sp_law_draws (wCons (wVar 0) (wCons (wC (.int 2)) (wCons (wC (.int 40)) wNil)))))
  (sSeq (sSet 4 (w2 wIx (wVar 2) (w2 wMod (w2 wIx (wVar 1) (wC (.int 1))) (wC (.int 6)))))
  (sSeq (sOwn 5 (wLst wNil))
  (sSeq (sSet 6 (wVar 4))
  (sSeq (sSet 7 (w2 wMod (w2 wIx (wVar 1) (wC (.int 2))) (wC (.int 3))))
  (sSeq (sFor (wItR1 (wCons (w2 wAdd (wC (.int 9)) (w2 wMod (w2 wIx (wVar 1) (wC (.int 3))) (wC (.int 32)))) wNil)) (gSet 8)
  sem_law_entries_b1)
  (sFrz 5 (sRet (wTup (wCons (wVar 4) (wCons (wVar 5) (wCons (wVar 2) wNil)))))))))))))
theorem pE_len (ns A : List Int) : (pE ns A).length = 6 := by simp [pE]
theorem nE_bd (A : List Int) : 9 ≤ nE A ∧ nE A ≤ 40 := by unfold nE; omega
theorem hf_law_entries : ∀ (ds : List D) (d : D), sp_law_entries ds d → sem_law_entries (startG 11 ds) { nx := fun _ => false = false ∧ d = .non, rt := fun z => z = d } := by
  rintro _ _ ⟨ns, A, lA, mA, rfl, rfl⟩
  have l1 := drawsL_len ns 1 6
  have m1 := drawsL_mem ns 1 6
  have l2 := drawsL_len ns 2 40
  have m2 := drawsL_mem ns 2 40
  have a0 : atI (A.map D.int) 0 = some (.int (gd A 0)) := atI_gd (i := 0) (by omega)
  have a1 : atI (A.map D.int) 1 = some (.int (gd A 1)) := atI_gd (i := 1) (by omega)
  have a2 : atI (A.map D.int) 2 = some (.int (gd A 2)) := atI_gd (i := 2) (by omega)
  have a3 : atI (A.map D.int) 3 = some (.int (gd A 3)) := atI_gd (i := 3) (by omega)
  have a4 : atI (A.map D.int) 4 = some (.int (gd A 4)) := atI_gd (i := 4) (by omega)
  have hnE := nE_bd A
  have hn : 9 + gd A 3 % 32 = (nE A : Int) := by unfold nE; omega
  unfold sem_law_entries
  simp only [startG, List.map, List.replicate, List.length, List.append, List.cons_append, List.nil_append, Nat.reduceSub, Nat.reduceAdd]
  apply sq
  · intro N hN
    simp [wLc]
    refine ⟨_, ⟨ns, 1, 6, by omega, rfl, rfl⟩, ?_⟩
    simp [enum_gd, l1]
    refine lc_map (fun (i : Nat) => D.tup [.int (i : Int), .int (gd (drawsL ns 1 6) i)]) (fun (k : Nat) => D.int (gd (drawsL ns 1 6) k * mE A + k)) (List.range 6) (fun k hk Ψ hΨ => ?_) (size_le (by simp)) ?_
    · have hk : k < 6 := List.mem_range.mp hk
      have hb := gd_mem m1 (show k < (drawsL ns 1 6).length by omega)
      generalize gd (drawsL ns 1 6) k = c at *
      simp [elW, a0, size_le]
      have hm : gd A 0 % 2 = 0 ∨ gd A 0 % 2 = 1 := by omega
      unfold mE at hΨ
      rcases hm with hm | hm
      · simp [hm, mulOk, CMul] at hΨ ⊢; exact hΨ
      · simp [hm, mulOk, CMul] at hΨ ⊢; exact hΨ
    · rw [show (List.range 6).map (fun (k : Nat) => D.int (gd (drawsL ns 1 6) k * mE A + k)) = (pE ns A).map D.int by simp [pE]]
      exact hN
  apply sq
  · intro N hN
    simp; exact ⟨_, ⟨ns, 2, 40, by omega, rfl, rfl⟩, hN⟩
  have hp6 := pE_len ns A
  have pix : ∀ x : Int, 0 ≤ x → x < 6 → atI ((pE ns A).map D.int) x = some (.int (gd (pE ns A) x.toNat)) := fun x h1 h2 => by
    have := atI_gd (l := pE ns A) (i := x.toNat) (by omega)
    rwa [Int.toNat_of_nonneg h1] at this
  apply sq
  · intro N hN
    simp [a1]
    exact ⟨_, pix _ (by omega) (by omega), hN⟩
  apply sq
  · intro N hN; simp; exact hN
  apply sq
  · intro N hN; simp; exact hN
  apply sq
  · intro N hN; simp [a2]; exact hN
  refine sqP (fun Γ => ∃ x6 x7 x8 x9 x10 : Option Sl, Γ = [some (.val (.scr ns)), some (.val (.lst (A.map .int))), some (.val (.lst ((pE ns A).map .int))), some (.val (.lst ((drawsL ns 2 40).map .int))), some (.val (.int (fE ns A))), some (.own (.lst ((entsE ns A).map eD))), x6, x7, x8, x9, x10]) ?_ ?_
  · intro N hN
    simp [a3]
    rw [hn]
    refine ⟨by omega, by omega, ?_⟩
    simp only [Int.toNat_natCast]
    refine for_rng 0 (nE A) (fun i Γ => ∃ x8 x9 x10 : Option Sl, Γ = [some (.val (.scr ns)), some (.val (.lst (A.map .int))), some (.val (.lst ((pE ns A).map .int))), some (.val (.lst ((drawsL ns 2 40).map .int))), some (.val (.int (fE ns A))), some (.own (.lst (((List.range i).map (entE ns A)).map eD))), some (.val (.int (hE ns A i))), some (.val (.int (dayE ns A i))), x8, x9, x10])
      ⟨none, none, none, by simp [hE, dayE, fE]⟩ ?_ ?_
    · rintro i Γ N hi ⟨x8, x9, x10, rfl⟩ hN
      have c2 := atI_gd (l := drawsL ns 2 40) (i := i) (by omega)
      have hb := gd_mem m2 (show i < (drawsL ns 2 40).length by omega)
      have hm : gd A 4 % 3 = 0 ∨ gd A 4 % 3 = 1 ∨ gd A 4 % 3 = 2 := by omega
      have hN' := hN [some (.val (.scr ns)), some (.val (.lst (A.map .int))), some (.val (.lst ((pE ns A).map .int))), some (.val (.lst ((drawsL ns 2 40).map .int))), some (.val (.int (fE ns A))), some (.own (.lst (((List.range i).map (entE ns A)).map eD ++ [.tup [.int (dayE ns A i + incE ns A i), .int (hE ns A i), .int (tkE ns A i)]]))), some (.val (.int (tkE ns A i))), some (.val (.int (dayE ns A i + incE ns A i))), some (.val (.int i)), some (.val (.int (tkE ns A i))), x10] ⟨some (.val (.int i)), some (.val (.int (tkE ns A i))), x10, by simp [List.range_succ, entE, eD, dayE, hE, Int.add_assoc]⟩
      have hpx := pix (gd (drawsL ns 2 40) i / 7 % 6) (by omega) (by omega)
      simp only [sem_law_entries_b1]
      unfold incE gE at hN'
      rcases hm with hm | hm | hm
      · simp [hm] at hN'
        simp [c2, a4, divOk, hm]
        exact ⟨_, hpx, size_lt (by omega), hN'⟩
      · simp [hm] at hN'
        simp [c2, a4, divOk, hm]
        exact ⟨_, hpx, size_lt (by omega), hN'⟩
      · simp [hm] at hN'
        simp [c2, a4, divOk, hm]
        exact ⟨_, hpx, size_lt (by omega), hN'⟩
    · rintro Γ ⟨x8, x9, x10, rfl⟩
      exact hN _ ⟨_, _, _, _, _, rfl⟩
  rintro Γ ⟨x6, x7, x8, x9, x10, rfl⟩
  simp [size_le]
theorem entsE_len (ns A : List Int) : (entsE ns A).length = nE A := by simp [entsE]
theorem pE_in {ns A : List Int} {x : Int} (h1 : 0 ≤ x) (h2 : x < 6) : gd (pE ns A) x.toNat ∈ pE ns A := gd_in (by rw [pE_len]; omega)
theorem tk_in (ns A : List Int) (k : Nat) : tkE ns A k ∈ pE ns A := pE_in (by omega) (by omega)
theorem h_in (ns A : List Int) (k : Nat) : hE ns A k ∈ pE ns A := by
  unfold hE; split
  · exact pE_in (by omega) (by omega)
  · exact tk_in _ _ _
theorem ents_in (ns A : List Int) : ∀ e ∈ entsE ns A, e.2.1 ∈ pE ns A := by
  intro e he
  obtain ⟨k, _, rfl⟩ := List.mem_map.mp he
  exact h_in _ _ _
/-! ### the law -/
def sp_law : List D → D → Prop := fun ds d => ∃ ns : List Int, ds = [.scr ns] ∧ d = .bl true
theorem sp_law_len : ∀ (ds : List D) (d : D), sp_law ds d → ds.length = 1 := by rintro _ _ ⟨_, rfl, _⟩; rfl
def sem_law_b1 : WS :=
  (sSeq (sAsg (w2 wIx (wBor 7) (wVar 8)) (gTupD 3 (gsCons (gSet 9) (gsCons (gSet 10) (gsCons (gSet 11) gsNil)))))
  (sSeq (sIf (wTest (w2 wNe (wVar 6) (wC (.int 1))))
  (sSet 10 (w2 wIx (wVar 4) (w2 wMod (wCall wInt (wCons (w2 wAdd (w2 wAdd (wIdx (wVar 4) (wVar 10)) (wC (.int 1))) (w2 wMod (w2 wIx (wVar 1) (w2 wAdd (wC (.int 15)) (wVar 6))) (wC (.int 5)))) wNil)) (wC (.int 6)))))
  sNext)
  (sSeq (sIf (wOr (wTest (w2 wEq (wVar 6) (wC (.int 1)))) (wTest (w2 wEq (wVar 6) (wC (.int 2)))))
  (sSet 9 (wCall wMax2 (wCons (wC (.int 0)) (wCons (w2 wSub (w2 wIx (wLc (wItL (wBor 7)) (gSet 12) wYes (w2 wIx (wVar 12) (wC (.int 0))) [12]) (w2 wSub (wVar 8) (wC (.int 1)))) (wC (.int 1))) wNil))))
  sNext)
  (sPut 7 (wVar 8) (wTup (wCons (wVar 9) (wCons (wVar 10) (wCons (wVar 11) wNil))))))))
def sem_law_b2 : WS :=
  (sSeq (sOwn 7 (wCall wList (wCons (wVar 3) wNil)))
  (sSeq (sFor (wItL (wSl slL (wLst (wCons (w2 wAdd (wC (.int 8)) (w2 wMod (w2 wIx (wVar 1) (w2 wAdd (wC (.int 7)) (wVar 6))) (w2 wSub (wVar 5) (wC (.int 8))))) (wCons (w2 wMod (w2 wIx (wVar 1) (w2 wAdd (wC (.int 11)) (wVar 6))) (wVar 5)) wNil))) (wPart (wC (.int 0))) (wPart (w2 wAdd (wC (.int 1)) (wCall wInt (wCons (w2 wEq (wVar 6) (wC (.int 3))) wNil)))))) (gSet 8)
  sem_law_b1)
  (sFrz 7 (sIf (wNot (wTru (wFn sp_law_chain_holds (wCons (wVar 2) (wCons (wVar 7) (wCons (wSl slL (wVar 1) (wPart (wC (.int 5))) (wPart (wC (.int 7)))) wNil))))))
  (sRet (wC (.bl false)))
  sNext))))
def sem_law : WS :=
  (sSeq (sSet 1 (wFn sp_law_draws (wCons (wVar 0) (wCons (wC (.int 0)) (wCons (wC (.int 20)) wNil)))))
  (sSeq (sAsg (wFn sp_law_entries (wCons (wVar 0) (wCons (wVar 1) wNil))) (gTupD 3 (gsCons (gSet 2) (gsCons (gSet 3) (gsCons (gSet 4) gsNil)))))
  (sSeq (sSet 5 (wCall wLen (wCons (wVar 3) wNil)))
  (sSeq (sIf (wNot (wTru (wFn sp_law_chain_holds (wCons (wVar 2) (wCons (wVar 3) (wCons (wSl slL (wVar 1) (wPart (wC (.int 5))) (wPart (wC (.int 7)))) wNil))))))
  (sRet (wC (.bl false)))
  sNext)
  (sSeq (sFor (wItR1 (wCons (wC (.int 4)) wNil)) (gSet 6)
  sem_law_b2)
  (sRet (wC (.bl true))))))))

theorem idx_ints {P : List Int} {x : Int} (h : x ∈ P) : ∃ (j : Nat) (z : D), (P.map D.int)[j]? = some z ∧ deq z (.int x) = true ∧ (∀ (m : Nat) (z' : D), m < j → (P.map D.int)[m]? = some z' → deq z' (.int x) = false) ∧ j < P.length := by
  induction P with
  | nil => cases h
  | cons a r ih =>
    by_cases q : a = x
    · exact ⟨0, .int a, rfl, by simp [q], fun m z' hm => absurd hm (by omega), by simp⟩
    · have h' : x ∈ r := by
        rcases List.mem_cons.mp h with h | h
        · exact absurd h.symm q
        · exact h
      obtain ⟨j, z, h1, h2, h3, h4⟩ := ih h'
      refine ⟨j + 1, z, by simpa using h1, h2, fun m z' hm hz => ?_, by simpa using h4⟩
      cases m with
      | zero =>
        simp at hz
        rw [← hz]; simp [q]
      | succ m => exact h3 m z' (by omega) (by simpa using hz)
theorem atI_pred {α : Type} {l : List α} {f : α → D} {k : Nat} (h : k < l.length) : ∃ a ∈ l, atI (l.map f) ((k : Int) - 1) = some (f a) := by
  by_cases h0 : 0 < k
  · refine ⟨l[k - 1], List.getElem_mem _, ?_⟩
    have := atI_nat (xs := l.map f) (j := k - 1) (v := f l[k - 1]) (by rw [List.getElem?_map, List.getElem?_eq_getElem (by omega)]; rfl)
    rwa [show ((k - 1 : Nat) : Int) = (k : Int) - 1 by omega] at this
  · obtain rfl : k = 0 := by omega
    refine ⟨l[l.length - 1], List.getElem_mem _, ?_⟩
    have e : ixN (l.map f).length (((0 : Nat) : Int) - 1) = some (l.length - 1) := by
      unfold ixN
      rw [List.length_map]
      simp
      omega
    unfold atI
    rw [e]
    show (l.map f)[l.length - 1]? = _
    rw [List.getElem?_map, List.getElem?_eq_getElem (by omega)]; rfl
theorem lb1 {ns A P : List Int} {f : Int} {l m : List Ent} {c kd at_ : Nat} {x9 x10 x11 x12 : Option Sl} {κ : DK} (lA : A.length = 20) (mA : ∀ x ∈ A, 0 ≤ x ∧ x < 5040) (lP : P.length = 6) (hkd : kd < 4) (hm : ∀ e ∈ m, e.2.1 ∈ P) (ha : at_ < m.length) (hm2 : m.length ≤ 100)
    (hN : ∀ (m' : List Ent) (y9 y10 y11 y12 : Option Sl), m'.length = m.length → (∀ e ∈ m', e.2.1 ∈ P) → κ.nx [some (.val (.scr ns)), some (.val (.lst (A.map .int))), some (.val (.int f)), some (.val (.lst (l.map eD))), some (.val (.lst (P.map .int))), some (.val (.int c)), some (.val (.int kd)), some (.own (.lst (m'.map eD))), some (.val (.int at_)), y9, y10, y11, y12]) :
    sem_law_b1 [some (.val (.scr ns)), some (.val (.lst (A.map .int))), some (.val (.int f)), some (.val (.lst (l.map eD))), some (.val (.lst (P.map .int))), some (.val (.int c)), some (.val (.int kd)), some (.own (.lst (m.map eD))), some (.val (.int at_)), x9, x10, x11, x12] κ := by
  unfold sem_law_b1
  have h1 := atI_ent ha
  have he : (m.getD at_ z3).2.1 ∈ P := hm _ (by rw [List.getD, List.getElem?_eq_getElem ha]; exact List.getElem_mem ha)
  generalize m.getD at_ z3 = e at *
  apply sq
  · intro N hN
    simp [h1]
    simp [eD]
    exact hN
  refine sqP (fun Γ => ∃ g ∈ P, Γ = [some (.val (.scr ns)), some (.val (.lst (A.map .int))), some (.val (.int f)), some (.val (.lst (l.map eD))), some (.val (.lst (P.map .int))), some (.val (.int c)), some (.val (.int kd)), some (.own (.lst (m.map eD))), some (.val (.int at_)), some (.val (.int e.1)), some (.val (.int g)), some (.val (.int e.2.2)), x12]) ?_ ?_
  · intro N hN
    simp [-List.getElem?_map]
    by_cases hk1 : (kd : Int) = 1
    · exact .inl ⟨hk1, hN _ ⟨_, he, rfl⟩⟩
    · obtain ⟨j, z, i1, i2, i3, i4⟩ := idx_ints he
      have ak := atI_gd (l := A) (i := 15 + kd) (by omega)
      have mk := gd_mem mA (show 15 + kd < A.length by omega)
      rw [show ((15 + kd : Nat) : Int) = 15 + (kd : Int) by omega] at ak
      refine .inr ⟨hk1, j, z, i1, i2, i3, _, ak, ?_⟩
      have hp := atI_gd (l := P) (i := (((j : Int) + 1 + gd A (15 + kd) % 5) % 6).toNat) (by omega)
      rw [Int.toNat_of_nonneg (by omega)] at hp
      simp
      exact ⟨_, hp, hN _ ⟨_, gd_in (by omega), rfl⟩⟩
  rintro Γ ⟨g, hg, rfl⟩
  refine sqP (fun Γ => ∃ d : Int, Γ = [some (.val (.scr ns)), some (.val (.lst (A.map .int))), some (.val (.int f)), some (.val (.lst (l.map eD))), some (.val (.lst (P.map .int))), some (.val (.int c)), some (.val (.int kd)), some (.own (.lst (m.map eD))), some (.val (.int at_)), some (.val (.int d)), some (.val (.int g)), some (.val (.int e.2.2)), x12]) ?_ ?_
  · intro N hN
    simp
    split
    · simp [wLc]
      refine lc_map eD (fun e => .int e.1) m (fun e' he' Ψ hΨ => by simp [elW, eD]; exact hΨ) (size_le (by omega)) ?_
      obtain ⟨a, _, ha'⟩ := atI_pred (f := fun e : Ent => D.int e.1) ha
      refine ⟨_, ha', ?_⟩
      simp
      exact hN _ ⟨_, rfl⟩
    · split
      · simp [wLc]
        refine lc_map eD (fun e => .int e.1) m (fun e' he' Ψ hΨ => by simp [elW, eD]; exact hΨ) (size_le (by omega)) ?_
        obtain ⟨a, _, ha'⟩ := atI_pred (f := fun e : Ent => D.int e.1) ha
        refine ⟨_, ha', ?_⟩
        simp
        exact hN _ ⟨_, rfl⟩
      · exact hN _ ⟨_, rfl⟩
  rintro Γ ⟨d, rfl⟩
  simp
  refine ⟨at_, by simp [ixN, ha], ?_⟩
  have e1 : (m.map eD).set at_ (.tup [.int d, .int g, .int e.2.2]) = (m.set at_ (d, g, e.2.2)).map eD := by rw [List.map_set]; rfl
  rw [e1]
  refine hN _ _ _ _ _ (by simp) fun e' he' => ?_
  rcases List.mem_or_eq_of_mem_set he' with h | rfl
  · exact hm e' h
  · exact hg
theorem lb2 {ns A P : List Int} {f : Int} {l : List Ent} {kd : Nat} {x7 x8 x9 x10 x11 x12 : Option Sl} {κ : DK} (lA : A.length = 20) (mA : ∀ x ∈ A, 0 ≤ x ∧ x < 5040) (lP : P.length = 6) (hkd : kd < 4) (hl : ∀ e ∈ l, e.2.1 ∈ P) (h9 : 9 ≤ l.length) (h40 : l.length ≤ 40)
    (hN : ∀ y7 y8 y9 y10 y11 y12 : Option Sl, κ.nx [some (.val (.scr ns)), some (.val (.lst (A.map .int))), some (.val (.int f)), some (.val (.lst (l.map eD))), some (.val (.lst (P.map .int))), some (.val (.int l.length)), some (.val (.int kd)), y7, y8, y9, y10, y11, y12]) :
    sem_law_b2 [some (.val (.scr ns)), some (.val (.lst (A.map .int))), some (.val (.int f)), some (.val (.lst (l.map eD))), some (.val (.lst (P.map .int))), some (.val (.int l.length)), some (.val (.int kd)), x7, x8, x9, x10, x11, x12] κ := by
  unfold sem_law_b2
  apply sq
  · intro N hN; simp; exact hN
  refine sqP (fun Γ => ∃ (m : List Ent) (x8 x9 x10 x11 x12 : Option Sl), m.length = l.length ∧ (∀ e ∈ m, e.2.1 ∈ P) ∧ Γ = [some (.val (.scr ns)), some (.val (.lst (A.map .int))), some (.val (.int f)), some (.val (.lst (l.map eD))), some (.val (.lst (P.map .int))), some (.val (.int l.length)), some (.val (.int kd)), some (.own (.lst (m.map eD))), x8, x9, x10, x11, x12]) ?_ ?_
  · intro N hN
    have b1 := atI_gd (l := A) (i := 7 + kd) (by omega)
    have b2 := atI_gd (l := A) (i := 11 + kd) (by omega)
    have n1 := gd_mem mA (show 7 + kd < A.length by omega)
    have n2 := gd_mem mA (show 11 + kd < A.length by omega)
    rw [show ((7 + kd : Nat) : Int) = 7 + (kd : Int) by omega] at b1
    rw [show ((11 + kd : Nat) : Int) = 11 + (kd : Int) by omega] at b2
    obtain ⟨t1, e1, g1⟩ : ∃ t : Nat, 8 + gd A (7 + kd) % ((l.length : Int) - 8) = (t : Int) ∧ t < l.length := by
      have h1 := Int.emod_nonneg (gd A (7 + kd)) (show (l.length : Int) - 8 ≠ 0 by omega)
      have h2 := Int.emod_lt_of_pos (gd A (7 + kd)) (show 0 < (l.length : Int) - 8 by omega)
      exact ⟨(8 + gd A (7 + kd) % ((l.length : Int) - 8)).toNat, by omega, by omega⟩
    obtain ⟨t2, e2, g2⟩ : ∃ t : Nat, gd A (11 + kd) % (l.length : Int) = (t : Int) ∧ t < l.length := by
      have h1 := Int.emod_nonneg (gd A (11 + kd)) (show (l.length : Int) ≠ 0 by omega)
      have h2 := Int.emod_lt_of_pos (gd A (11 + kd)) (show 0 < (l.length : Int) by omega)
      exact ⟨(gd A (11 + kd) % (l.length : Int)).toNat, by omega, by omega⟩
    simp [b1, b2, e1, e2]
    refine ⟨by omega, by omega, ?_⟩
    obtain ⟨q, hq⟩ : ∃ q : Nat, (1 + if (kd : Int) = 3 then 1 else 0 : Int) = (q : Int) := by
      split
      · exact ⟨2, rfl⟩
      · exact ⟨1, rfl⟩
    have hc := cutI_nat natD [t1, t2] 0 q
    simp only [List.map, natD] at hc
    rw [hq]
    rw [show (some (0 : Int)) = some ((0 : Nat) : Int) from rfl, hc]
    refine for_list natD (fun i Γ => ∃ (m : List Ent) (x8 x9 x10 x11 x12 : Option Sl), m.length = l.length ∧ (∀ e ∈ m, e.2.1 ∈ P) ∧ Γ = [some (.val (.scr ns)), some (.val (.lst (A.map .int))), some (.val (.int f)), some (.val (.lst (l.map eD))), some (.val (.lst (P.map .int))), some (.val (.int l.length)), some (.val (.int kd)), some (.own (.lst (m.map eD))), x8, x9, x10, x11, x12]) (([t1, t2].drop 0).take (q - 0)) ⟨l, _, _, _, _, _, rfl, hl, rfl⟩ ?_ ?_
    · rintro i t Γ N hi ⟨m, x8, x9, x10, x11, x12, hm1, hm2, rfl⟩ hN
      have ht : t < m.length := by
        have := List.mem_of_mem_take (List.mem_of_getElem? hi)
        simp at this
        rcases this with rfl | rfl <;> omega
      simp only [gSet, natD, List.set]
      refine lb1 lA mA lP hkd hm2 ht (by omega) fun m' y9 y10 y11 y12 h1 h2 => hN _ ⟨m', _, y9, y10, y11, y12, by omega, h2, rfl⟩
    · rintro Γ ⟨m, x8, x9, x10, x11, x12, hm1, hm2, rfl⟩
      exact hN _ ⟨m, _, _, _, _, _, hm1, hm2, rfl⟩
  rintro Γ ⟨m, x8, x9, x10, x11, x12, hm, hm2, rfl⟩
  have hc := cutI_nat D.int A 5 7
  simp [-List.map_drop, -List.map_take] at hc ⊢
  rw [hc]
  refine ⟨_, ⟨f, m, (A.drop 5).take 2, by omega, by omega, by simp; omega, rfl, rfl⟩, ?_⟩
  simp
  exact hN _ _ _ _ _ _
theorem hf_law : ∀ (ds : List D) (d : D), sp_law ds d → sem_law (startG 13 ds) { nx := fun _ => false = false ∧ d = .non, rt := fun z => z = d } := by
  rintro _ _ ⟨ns, rfl, rfl⟩
  have lA := drawsL_len ns 0 20
  have mA := drawsL_mem ns 0 20
  unfold sem_law
  simp only [startG, List.map, List.replicate, List.length, List.append, List.cons_append, List.nil_append, Nat.reduceSub, Nat.reduceAdd]
  apply sq
  · intro N hN
    simp; exact ⟨_, ⟨ns, 0, 20, by omega, rfl, rfl⟩, hN⟩
  generalize drawsL ns 0 20 = A at *
  apply sq
  · intro N hN
    simp
    refine ⟨_, ⟨ns, A, lA, mA, rfl, rfl⟩, ?_⟩
    simp
    exact hN
  have hP := pE_len ns A
  have hE := ents_in ns A
  have hL := entsE_len ns A
  have hn := nE_bd A
  generalize entsE ns A = l at *
  generalize pE ns A = P at *
  generalize fE ns A = f at *
  apply sq
  · intro N hN; simp; exact hN
  have hc := cutI_nat D.int A 5 7
  simp [-List.map_drop, -List.map_take] at hc
  apply sq
  · intro N hN
    simp [-List.map_drop, -List.map_take]
    rw [hc]
    refine ⟨_, ⟨f, l, (A.drop 5).take 2, by omega, by omega, by simp; omega, rfl, rfl⟩, ?_⟩
    simp
    exact hN
  refine sqP (fun Γ => ∃ x6 x7 x8 x9 x10 x11 x12 : Option Sl, Γ = [some (.val (.scr ns)), some (.val (.lst (A.map .int))), some (.val (.int f)), some (.val (.lst (l.map eD))), some (.val (.lst (P.map .int))), some (.val (.int l.length)), x6, x7, x8, x9, x10, x11, x12]) ?_ ?_
  · intro N hN
    simp
    refine for_rng 0 4 (fun i Γ => ∃ x6 x7 x8 x9 x10 x11 x12 : Option Sl, Γ = [some (.val (.scr ns)), some (.val (.lst (A.map .int))), some (.val (.int f)), some (.val (.lst (l.map eD))), some (.val (.lst (P.map .int))), some (.val (.int l.length)), x6, x7, x8, x9, x10, x11, x12]) ⟨_, _, _, _, _, _, _, rfl⟩ ?_ ?_
    · rintro i Γ N hi ⟨x6, x7, x8, x9, x10, x11, x12, rfl⟩ hN
      simp only [gSet, Int.zero_add, List.set]
      exact lb2 lA mA hP hi hE (by omega) (by omega) fun y7 y8 y9 y10 y11 y12 => hN _ ⟨_, _, _, _, _, _, _, rfl⟩
    · rintro Γ ⟨x6, x7, x8, x9, x10, x11, x12, rfl⟩
      exact hN _ ⟨_, _, _, _, _, _, _, rfl⟩
  rintro Γ ⟨x6, x7, x8, x9, x10, x11, x12, rfl⟩
  simp
end DL

set_option Elab.async false
set_option linter.all false
set_option maxRecDepth 100000
set_option maxHeartbeats 4000000
namespace DL
open PySem PySem.Spec PyProof.Rows L2
theorem law_start {K : Fr} {H : Hp} {a : Addr} (ns : List Int) (hl : ns.length ≤ 63) (hS : SqL K H a (ns.map V.int)) : spD false K sp_law [.ref a] H (fun v _ => v = .bl true) fun _ _ _ => False :=
  ⟨H, [.scr ns], .bl true, Same.refl _, .cons (.scr hS) .nil, ⟨ns, rfl, rfl⟩, fun v F' H' g r => r.bl_inv⟩
def topS (i : Nat) : Stmt := PySem.Challenge.pw_juriesagree_k75_whole_long_rows_of_hands.main.body.getD i (.Pass ⟨0, 0, 0, 0⟩)
abbrev s_is_whole : Stmt := topS 1
theorem sc_is_whole : FnScope ["value"] ["value"] (defScope s_is_whole) := ⟨rfl, rfl, rfl, by decide +kernel, rfl, by decide +kernel, by decide +kernel⟩
abbrev s_is_within : Stmt := topS 2
theorem sc_is_within : FnScope ["value", "low", "high"] ["value", "low", "high"] (defScope s_is_within) := ⟨rfl, rfl, rfl, by decide +kernel, rfl, by decide +kernel, by decide +kernel⟩
abbrev s_holder_ahead : Stmt := topS 4
theorem sc_holder_ahead : FnScope ["first", "entries", "k"] ["first", "entries", "k"] (defScope s_holder_ahead) := ⟨rfl, rfl, rfl, by decide +kernel, rfl, by decide +kernel, by decide +kernel⟩
abbrev s_is_early : Stmt := topS 5
theorem sc_is_early : FnScope ["entries", "k"] ["entries", "k"] (defScope s_is_early) := ⟨rfl, rfl, rfl, by decide +kernel, rfl, by decide +kernel, by decide +kernel⟩
abbrev s_is_break : Stmt := topS 6
theorem sc_is_break : FnScope ["first", "entries", "k"] ["first", "entries", "k"] (defScope s_is_break) := ⟨rfl, rfl, rfl, by decide +kernel, rfl, by decide +kernel, by decide +kernel⟩
abbrev s_breaks : Stmt := topS 7
theorem sc_breaks : FnScope ["first", "entries", "k"] ["first", "entries"] (defScope s_breaks) := ⟨rfl, rfl, rfl, by decide +kernel, rfl, by decide +kernel, by decide +kernel⟩
abbrev s_find_chain : Stmt := topS 8
theorem sc_find_chain : FnScope ["first", "entries", "found", "k"] ["first", "entries"] (defScope s_find_chain) := ⟨rfl, rfl, rfl, by decide +kernel, rfl, by decide +kernel, by decide +kernel⟩
abbrev s_is_entry : Stmt := topS 9
theorem sc_is_entry : FnScope ["entry"] ["entry"] (defScope s_is_entry) := ⟨rfl, rfl, rfl, by decide +kernel, rfl, by decide +kernel, by decide +kernel⟩
abbrev s_mends : Stmt := topS 10
theorem sc_mends : FnScope ["first", "entries", "k", "entry"] ["first", "entries", "k", "entry"] (defScope s_mends) := ⟨rfl, rfl, rfl, by decide +kernel, rfl, by decide +kernel, by decide +kernel⟩
abbrev s_are_never : Stmt := topS 11
theorem sc_are_never : FnScope ["first", "entries", "some", "k"] ["first", "entries", "some"] (defScope s_are_never) := ⟨rfl, rfl, rfl, by decide +kernel, rfl, by decide +kernel, by decide +kernel⟩
abbrev s_judge_chain : Stmt := topS 12
theorem sc_judge_chain : FnScope ["first", "entries", "verdict"] ["first", "entries", "verdict"] (defScope s_judge_chain) := ⟨rfl, rfl, rfl, by decide +kernel, rfl, by decide +kernel, by decide +kernel⟩
abbrev s_law_cell : Stmt := topS 14
theorem sc_law_cell : FnScope ["script", "k"] ["script", "k"] (defScope s_law_cell) := ⟨rfl, rfl, rfl, by decide +kernel, rfl, by decide +kernel, by decide +kernel⟩
abbrev s_law_numbers : Stmt := topS 15
theorem sc_law_numbers : FnScope ["cell", "count", "limit", "found", "k", "mixed"] ["cell", "count", "limit"] (defScope s_law_numbers) := ⟨rfl, rfl, rfl, by decide +kernel, rfl, by decide +kernel, by decide +kernel⟩
abbrev s_law_same : Stmt := topS 16
theorem sc_law_same : FnScope ["told", "due", "k"] ["told", "due"] (defScope s_law_same) := ⟨rfl, rfl, rfl, by decide +kernel, rfl, by decide +kernel, by decide +kernel⟩
abbrev s_law_draws : Stmt := topS 17
theorem sc_law_draws : FnScope ["script", "k", "count"] ["script", "k", "count"] (defScope s_law_draws) := ⟨rfl, rfl, rfl, by decide +kernel, rfl, by decide +kernel, by decide +kernel⟩
abbrev s_law_says : Stmt := topS 18
theorem sc_law_says : FnScope ["told", "due"] ["told", "due"] (defScope s_law_says) := ⟨rfl, rfl, rfl, by decide +kernel, rfl, by decide +kernel, by decide +kernel⟩
abbrev s_law_entries : Stmt := topS 19
theorem sc_law_entries : FnScope ["script", "draws", "persons", "cells", "first", "found", "holder", "day", "k", "taker", "cell"] ["script", "draws"] (defScope s_law_entries) := ⟨rfl, rfl, rfl, by decide +kernel, rfl, by decide +kernel, by decide +kernel⟩
abbrev s_law_breaks : Stmt := topS 20
theorem sc_law_breaks : FnScope ["first", "entries", "found", "holder", "k", "day", "giver", "taker"] ["first", "entries"] (defScope s_law_breaks) := ⟨rfl, rfl, rfl, by decide +kernel, rfl, by decide +kernel, by decide +kernel⟩
abbrev s_law_holder : Stmt := topS 21
theorem sc_law_holder : FnScope ["first", "entries", "k", "entry"] ["first", "entries", "k"] (defScope s_law_holder) := ⟨rfl, rfl, rfl, by decide +kernel, rfl, by decide +kernel, by decide +kernel⟩
abbrev s_law_due : Stmt := topS 22
theorem sc_law_due : FnScope ["first", "entries", "broken", "k"] ["first", "entries"] (defScope s_law_due) := ⟨rfl, rfl, rfl, by decide +kernel, rfl, by decide +kernel, by decide +kernel⟩
abbrev s_law_accepts : Stmt := topS 23
theorem sc_law_accepts : FnScope ["first", "entries", "paper", "broken", "k"] ["first", "entries", "paper"] (defScope s_law_accepts) := ⟨rfl, rfl, rfl, by decide +kernel, rfl, by decide +kernel, by decide +kernel⟩
abbrev s_law_papers : Stmt := topS 24
theorem sc_law_papers : FnScope ["first", "entries", "due", "draws", "count", "broken", "last", "found", "k", "holder", "day", "giver", "at", "entry"] ["first", "entries", "due", "draws"] (defScope s_law_papers) := ⟨rfl, rfl, rfl, by decide +kernel, rfl, by decide +kernel, by decide +kernel⟩
abbrev s_law_chain_holds : Stmt := topS 25
theorem sc_law_chain_holds : FnScope ["first", "entries", "draws", "handed", "due", "paper", "told"] ["first", "entries", "draws"] (defScope s_law_chain_holds) := ⟨rfl, rfl, rfl, by decide +kernel, rfl, by decide +kernel, by decide +kernel⟩
abbrev s_law : Stmt := topS 26
theorem sc_law : FnScope ["script", "draws", "first", "entries", "persons", "count", "kind", "bent", "at", "day", "giver", "taker", "entry"] ["script"] (defScope s_law) := ⟨rfl, rfl, rfl, by decide +kernel, rfl, by decide +kernel, by decide +kernel⟩
structure Tx (K : Fr) (mg : Str → Option Value) (a_is_whole a_is_within a_holder_ahead a_is_early a_is_break a_breaks a_find_chain a_is_entry a_mends a_are_never a_judge_chain a_law_cell a_law_numbers a_law_same a_law_draws a_law_says a_law_entries a_law_breaks a_law_holder a_law_due a_law_accepts a_law_papers a_law_chain_holds a_law : Addr) (d_is_whole d_is_within d_holder_ahead d_is_early d_is_break d_breaks d_find_chain d_is_entry d_mends d_are_never d_judge_chain d_law_cell d_law_numbers d_law_same d_law_draws d_law_says d_law_entries d_law_breaks d_law_holder d_law_due d_law_accepts d_law_papers d_law_chain_holds d_law : FuncData) : Prop where
  F_is_whole : Fun K "is_whole" "is_whole" s_is_whole a_is_whole d_is_whole
  g_is_whole : mg "is_whole" = some (.ref a_is_whole)
  b_is_whole : Binds K d_is_whole ["value"] []
  F_is_within : Fun K "is_within" "is_within" s_is_within a_is_within d_is_within
  g_is_within : mg "is_within" = some (.ref a_is_within)
  b_is_within : Binds K d_is_within ["value", "low", "high"] []
  F_holder_ahead : Fun K "holder_ahead" "holder_ahead" s_holder_ahead a_holder_ahead d_holder_ahead
  g_holder_ahead : mg "holder_ahead" = some (.ref a_holder_ahead)
  b_holder_ahead : Binds K d_holder_ahead ["first", "entries", "k"] []
  F_is_early : Fun K "is_early" "is_early" s_is_early a_is_early d_is_early
  g_is_early : mg "is_early" = some (.ref a_is_early)
  b_is_early : Binds K d_is_early ["entries", "k"] []
  F_is_break : Fun K "is_break" "is_break" s_is_break a_is_break d_is_break
  g_is_break : mg "is_break" = some (.ref a_is_break)
  b_is_break : Binds K d_is_break ["first", "entries", "k"] []
  F_breaks : Fun K "breaks" "breaks" s_breaks a_breaks d_breaks
  g_breaks : mg "breaks" = some (.ref a_breaks)
  b_breaks : Binds K d_breaks ["first", "entries"] []
  F_find_chain : Fun K "find_chain" "find_chain" s_find_chain a_find_chain d_find_chain
  g_find_chain : mg "find_chain" = some (.ref a_find_chain)
  b_find_chain : Binds K d_find_chain ["first", "entries"] []
  F_is_entry : Fun K "is_entry" "is_entry" s_is_entry a_is_entry d_is_entry
  g_is_entry : mg "is_entry" = some (.ref a_is_entry)
  b_is_entry : Binds K d_is_entry ["entry"] []
  F_mends : Fun K "mends" "mends" s_mends a_mends d_mends
  g_mends : mg "mends" = some (.ref a_mends)
  b_mends : Binds K d_mends ["first", "entries", "k", "entry"] []
  F_are_never : Fun K "are_never" "are_never" s_are_never a_are_never d_are_never
  g_are_never : mg "are_never" = some (.ref a_are_never)
  b_are_never : Binds K d_are_never ["first", "entries", "some"] []
  F_judge_chain : Fun K "judge_chain" "judge_chain" s_judge_chain a_judge_chain d_judge_chain
  g_judge_chain : mg "judge_chain" = some (.ref a_judge_chain)
  b_judge_chain : Binds K d_judge_chain ["first", "entries", "verdict"] []
  F_law_cell : Fun K "_law_cell" "_law_cell" s_law_cell a_law_cell d_law_cell
  g_law_cell : mg "_law_cell" = some (.ref a_law_cell)
  b_law_cell : Binds K d_law_cell ["script", "k"] []
  F_law_numbers : Fun K "_law_numbers" "_law_numbers" s_law_numbers a_law_numbers d_law_numbers
  g_law_numbers : mg "_law_numbers" = some (.ref a_law_numbers)
  b_law_numbers : Binds K d_law_numbers ["cell", "count", "limit"] []
  F_law_same : Fun K "_law_same" "_law_same" s_law_same a_law_same d_law_same
  g_law_same : mg "_law_same" = some (.ref a_law_same)
  b_law_same : Binds K d_law_same ["told", "due"] []
  F_law_draws : Fun K "_law_draws" "_law_draws" s_law_draws a_law_draws d_law_draws
  g_law_draws : mg "_law_draws" = some (.ref a_law_draws)
  b_law_draws : Binds K d_law_draws ["script", "k", "count"] []
  F_law_says : Fun K "_law_says" "_law_says" s_law_says a_law_says d_law_says
  g_law_says : mg "_law_says" = some (.ref a_law_says)
  b_law_says : Binds K d_law_says ["told", "due"] []
  F_law_entries : Fun K "_law_entries" "_law_entries" s_law_entries a_law_entries d_law_entries
  g_law_entries : mg "_law_entries" = some (.ref a_law_entries)
  b_law_entries : Binds K d_law_entries ["script", "draws"] []
  F_law_breaks : Fun K "_law_breaks" "_law_breaks" s_law_breaks a_law_breaks d_law_breaks
  g_law_breaks : mg "_law_breaks" = some (.ref a_law_breaks)
  b_law_breaks : Binds K d_law_breaks ["first", "entries"] []
  F_law_holder : Fun K "_law_holder" "_law_holder" s_law_holder a_law_holder d_law_holder
  g_law_holder : mg "_law_holder" = some (.ref a_law_holder)
  b_law_holder : Binds K d_law_holder ["first", "entries", "k"] []
  F_law_due : Fun K "_law_due" "_law_due" s_law_due a_law_due d_law_due
  g_law_due : mg "_law_due" = some (.ref a_law_due)
  b_law_due : Binds K d_law_due ["first", "entries"] []
  F_law_accepts : Fun K "_law_accepts" "_law_accepts" s_law_accepts a_law_accepts d_law_accepts
  g_law_accepts : mg "_law_accepts" = some (.ref a_law_accepts)
  b_law_accepts : Binds K d_law_accepts ["first", "entries", "paper"] []
  F_law_papers : Fun K "_law_papers" "_law_papers" s_law_papers a_law_papers d_law_papers
  g_law_papers : mg "_law_papers" = some (.ref a_law_papers)
  b_law_papers : Binds K d_law_papers ["first", "entries", "due", "draws"] []
  F_law_chain_holds : Fun K "_law_chain_holds" "_law_chain_holds" s_law_chain_holds a_law_chain_holds d_law_chain_holds
  g_law_chain_holds : mg "_law_chain_holds" = some (.ref a_law_chain_holds)
  b_law_chain_holds : Binds K d_law_chain_holds ["first", "entries", "draws"] []
  F_law : Fun K "law" "law" s_law a_law d_law
  g_law : mg "law" = some (.ref a_law)
  b_law : Binds K d_law ["script"] []
  m_all : mg "all" = none
  m_bool : mg "bool" = none
  m_enumerate : mg "enumerate" = none
  m_int : mg "int" = none
  m_isinstance : mg "isinstance" = none
  m_len : mg "len" = none
  m_list : mg "list" = none
  m_max : mg "max" = none
  m_min : mg "min" = none
  m_range : mg "range" = none
  m_str : mg "str" = none
  m_tuple : mg "tuple" = none
section
variable {P : Program} {w : World} {K : Fr} {mg : Str → Option Value} {base : Heap} {a_is_whole a_is_within a_holder_ahead a_is_early a_is_break a_breaks a_find_chain a_is_entry a_mends a_are_never a_judge_chain a_law_cell a_law_numbers a_law_same a_law_draws a_law_says a_law_entries a_law_breaks a_law_holder a_law_due a_law_accepts a_law_papers a_law_chain_holds a_law : Addr} {d_is_whole d_is_within d_holder_ahead d_is_early d_is_break d_breaks d_find_chain d_is_entry d_mends d_are_never d_judge_chain d_law_cell d_law_numbers d_law_same d_law_draws d_law_says d_law_entries d_law_breaks d_law_holder d_law_due d_law_accepts d_law_papers d_law_chain_holds d_law : FuncData}
theorem ok_is_whole (T : Tx K mg a_is_whole a_is_within a_holder_ahead a_is_early a_is_break a_breaks a_find_chain a_is_entry a_mends a_are_never a_judge_chain a_law_cell a_law_numbers a_law_same a_law_draws a_law_says a_law_entries a_law_breaks a_law_holder a_law_due a_law_accepts a_law_papers a_law_chain_holds a_law d_is_whole d_is_within d_holder_ahead d_is_early d_is_break d_breaks d_find_chain d_is_entry d_mends d_are_never d_judge_chain d_law_cell d_law_numbers d_law_same d_law_draws d_law_says d_law_entries d_law_breaks d_law_holder d_law_due d_law_accepts d_law_papers d_law_chain_holds d_law) : FnOk P w K mg base CX0 1 a_is_whole d_is_whole ["value"] (spD false K sp_is_whole) :=
  fnD T.F_is_whole sc_is_whole sp_is_whole_len hf_is_whole fun cdv A outer s H E hr => by
    exact ⟨_, (dss_one (ds_ret (de_and (de_isi (T := "int") ((de_var 0)).toB T.m_isinstance T.m_int (by decide +kernel) kit_int) (de_one (de_notT ((de_isi (T := "bool") ((de_var 0)).toB T.m_isinstance T.m_bool (by decide +kernel) kit_bool)).toB)))))⟩
theorem ok_is_within (T : Tx K mg a_is_whole a_is_within a_holder_ahead a_is_early a_is_break a_breaks a_find_chain a_is_entry a_mends a_are_never a_judge_chain a_law_cell a_law_numbers a_law_same a_law_draws a_law_says a_law_entries a_law_breaks a_law_holder a_law_due a_law_accepts a_law_papers a_law_chain_holds a_law d_is_whole d_is_within d_holder_ahead d_is_early d_is_break d_breaks d_find_chain d_is_entry d_mends d_are_never d_judge_chain d_law_cell d_law_numbers d_law_same d_law_draws d_law_says d_law_entries d_law_breaks d_law_holder d_law_due d_law_accepts d_law_papers d_law_chain_holds d_law) : FnOk P w K mg base CX0 2 a_is_within d_is_within ["value", "low", "high"] (spD false K sp_is_within) :=
  fnD T.F_is_within sc_is_within sp_is_within_len hf_is_within fun cdv A outer s H E hr => by
    have G_is_whole := (ok_is_whole (P := P) (w := w) (base := base) T).mono (show 1 ≤ 1 by decide)
    exact ⟨_, (dss_one (ds_ret (de_and (de_call G_is_whole hr T.g_is_whole T.F_is_whole.kp T.b_is_whole (da_cons (de_var 0) da_nil)) (de_one (de_chain o_le d_le o_le d_le ((de_var 1)).toB ((de_var 0)).toB ((de_var 2)).toB)))))⟩
theorem ok_holder_ahead (T : Tx K mg a_is_whole a_is_within a_holder_ahead a_is_early a_is_break a_breaks a_find_chain a_is_entry a_mends a_are_never a_judge_chain a_law_cell a_law_numbers a_law_same a_law_draws a_law_says a_law_entries a_law_breaks a_law_holder a_law_due a_law_accepts a_law_papers a_law_chain_holds a_law d_is_whole d_is_within d_holder_ahead d_is_early d_is_break d_breaks d_find_chain d_is_entry d_mends d_are_never d_judge_chain d_law_cell d_law_numbers d_law_same d_law_draws d_law_says d_law_entries d_law_breaks d_law_holder d_law_due d_law_accepts d_law_papers d_law_chain_holds d_law) : FnOk P w K mg base CX0 1 a_holder_ahead d_holder_ahead ["first", "entries", "k"] (spD false K sp_holder_ahead) :=
  fnD T.F_holder_ahead sc_holder_ahead sp_holder_ahead_len hf_holder_ahead fun cdv A outer s H E hr => by
    exact ⟨_, (dss_one (ds_ret (de_ite (dt_cmp (o_eq hr) d_eq ((de_var 2)).toB (de_int).toB (nomark _)) (de_var 0) (de_ix x_seq d_ix ((de_ix x_seq d_ix ((de_var 1)).toB ((de_op o_sub d_sub ((de_var 2)).toB (de_int).toB)).toB)).toB (de_int).toB))))⟩
theorem ok_is_early (T : Tx K mg a_is_whole a_is_within a_holder_ahead a_is_early a_is_break a_breaks a_find_chain a_is_entry a_mends a_are_never a_judge_chain a_law_cell a_law_numbers a_law_same a_law_draws a_law_says a_law_entries a_law_breaks a_law_holder a_law_due a_law_accepts a_law_papers a_law_chain_holds a_law d_is_whole d_is_within d_holder_ahead d_is_early d_is_break d_breaks d_find_chain d_is_entry d_mends d_are_never d_judge_chain d_law_cell d_law_numbers d_law_same d_law_draws d_law_says d_law_entries d_law_breaks d_law_holder d_law_due d_law_accepts d_law_papers d_law_chain_holds d_law) : FnOk P w K mg base CX0 1 a_is_early d_is_early ["entries", "k"] (spD false K sp_is_early) :=
  fnD T.F_is_early sc_is_early sp_is_early_len hf_is_early fun cdv A outer s H E hr => by
    exact ⟨_, (dss_one (ds_ret (de_and (de_cmp o_gt d_gt ((de_var 1)).toB (de_int).toB (nomark _)) (de_one (de_cmp o_lt d_lt ((de_ix x_seq d_ix ((de_ix x_seq d_ix ((de_var 0)).toB ((de_var 1)).toB)).toB (de_int).toB)).toB ((de_ix x_seq d_ix ((de_ix x_seq d_ix ((de_var 0)).toB ((de_op o_sub d_sub ((de_var 1)).toB (de_int).toB)).toB)).toB (de_int).toB)).toB (nomark _))))))⟩
theorem ok_is_break (T : Tx K mg a_is_whole a_is_within a_holder_ahead a_is_early a_is_break a_breaks a_find_chain a_is_entry a_mends a_are_never a_judge_chain a_law_cell a_law_numbers a_law_same a_law_draws a_law_says a_law_entries a_law_breaks a_law_holder a_law_due a_law_accepts a_law_papers a_law_chain_holds a_law d_is_whole d_is_within d_holder_ahead d_is_early d_is_break d_breaks d_find_chain d_is_entry d_mends d_are_never d_judge_chain d_law_cell d_law_numbers d_law_same d_law_draws d_law_says d_law_entries d_law_breaks d_law_holder d_law_due d_law_accepts d_law_papers d_law_chain_holds d_law) : FnOk P w K mg base CX0 2 a_is_break d_is_break ["first", "entries", "k"] (spD false K sp_is_break) :=
  fnD T.F_is_break sc_is_break sp_is_break_len hf_is_break fun cdv A outer s H E hr => by
    have G_holder_ahead := (ok_holder_ahead (P := P) (w := w) (base := base) T).mono (show 1 ≤ 1 by decide)
    have G_is_early := (ok_is_early (P := P) (w := w) (base := base) T).mono (show 1 ≤ 1 by decide)
    exact ⟨_, (dss_one (ds_ret (de_or (de_cmp (o_ne hr) d_ne ((de_ix x_seq d_ix ((de_ix x_seq d_ix ((de_var 1)).toB ((de_var 2)).toB)).toB (de_int).toB)).toB ((de_call G_holder_ahead hr T.g_holder_ahead T.F_holder_ahead.kp T.b_holder_ahead (da_cons (de_var 0) (da_cons (de_var 1) (da_cons (de_var 2) da_nil))))).toB (nomark _)) (de_one (de_call G_is_early hr T.g_is_early T.F_is_early.kp T.b_is_early (da_cons (de_var 1) (da_cons (de_var 2) da_nil)))))))⟩
theorem ok_breaks (T : Tx K mg a_is_whole a_is_within a_holder_ahead a_is_early a_is_break a_breaks a_find_chain a_is_entry a_mends a_are_never a_judge_chain a_law_cell a_law_numbers a_law_same a_law_draws a_law_says a_law_entries a_law_breaks a_law_holder a_law_due a_law_accepts a_law_papers a_law_chain_holds a_law d_is_whole d_is_within d_holder_ahead d_is_early d_is_break d_breaks d_find_chain d_is_entry d_mends d_are_never d_judge_chain d_law_cell d_law_numbers d_law_same d_law_draws d_law_says d_law_entries d_law_breaks d_law_holder d_law_due d_law_accepts d_law_papers d_law_chain_holds d_law) : FnOk P w K mg base CX0 3 a_breaks d_breaks ["first", "entries"] (spD false K sp_breaks) :=
  fnD T.F_breaks sc_breaks sp_breaks_len hf_breaks fun cdv A outer s H E hr => by
    have G_is_break := (ok_is_break (P := P) (w := w) (base := base) T).mono (show 2 ≤ 2 by decide)
    exact ⟨_, (dss_one (ds_ret ((df_lc rfl sc_breaks.nd (di_range1 T.m_range (da_cons (de_blt c_len d_len T.m_len (dab_cons ((de_var 1)).toB dab_nil)) da_nil)) (blk_ok ["first", "entries", "k"] (defScope s_breaks) (by decide +kernel)) (fun _ _ _ _ _ => (dg_name 2 sc_breaks.nd)) (fun _ _ _ _ _ => (dts_one (dt_tru ((de_call G_is_break hr T.g_is_break T.F_is_break.kp T.b_is_break (da_cons (de_var 0) (da_cons (de_var 1) (da_cons (de_var 2) da_nil))))).toB))) (fun _ _ _ _ _ => (de_var 2)) (own := [("k", 2)]))).toE))⟩
theorem ok_find_chain (T : Tx K mg a_is_whole a_is_within a_holder_ahead a_is_early a_is_break a_breaks a_find_chain a_is_entry a_mends a_are_never a_judge_chain a_law_cell a_law_numbers a_law_same a_law_draws a_law_says a_law_entries a_law_breaks a_law_holder a_law_due a_law_accepts a_law_papers a_law_chain_holds a_law d_is_whole d_is_within d_holder_ahead d_is_early d_is_break d_breaks d_find_chain d_is_entry d_mends d_are_never d_judge_chain d_law_cell d_law_numbers d_law_same d_law_draws d_law_says d_law_entries d_law_breaks d_law_holder d_law_due d_law_accepts d_law_papers d_law_chain_holds d_law) : FnOk P w K mg base CX0 4 a_find_chain d_find_chain ["first", "entries"] (spD false K sp_find_chain) :=
  fnD T.F_find_chain sc_find_chain sp_find_chain_len hf_find_chain fun cdv A outer s H E hr => by
    have G_breaks := (ok_breaks (P := P) (w := w) (base := base) T).mono (show 3 ≤ 3 by decide)
    have G_holder_ahead := (ok_holder_ahead (P := P) (w := w) (base := base) T).mono (show 1 ≤ 3 by decide)
    have G_is_early := (ok_is_early (P := P) (w := w) (base := base) T).mono (show 1 ≤ 3 by decide)
    exact ⟨_, (dss_cons (ds_set 2 sc_find_chain.nd (de_call G_breaks hr T.g_breaks T.F_breaks.kp T.b_breaks (da_cons (de_var 0) (da_cons (de_var 1) da_nil))))
  (dss_cons (ds_if (dt_not (dt_tru ((de_var 2)).toB))
  (dss_one (ds_ret (de_tup (da_cons de_str (da_cons (de_call G_holder_ahead hr T.g_holder_ahead T.F_holder_ahead.kp T.b_holder_ahead (da_cons (de_var 0) (da_cons (de_var 1) (da_cons (de_blt c_len d_len T.m_len (dab_cons ((de_var 1)).toB dab_nil)) da_nil)))) da_nil)))))
  dss_nil)
  (dss_cons (ds_set 3 sc_find_chain.nd (de_ix x_seq d_ix ((de_var 2)).toB (de_int).toB))
  (dss_cons (ds_if ((dw_or (dt_cmp o_gt d_gt ((de_blt c_len d_len T.m_len (dab_cons ((de_var 2)).toB dab_nil))).toB (de_int).toB (nomark _)) (dw_or1 (dt_tru ((de_call G_is_early hr T.g_is_early T.F_is_early.kp T.b_is_early (da_cons (de_var 1) (da_cons (de_var 3) da_nil)))).toB)))).toT
  (dss_one (ds_ret (de_tup (da_cons de_str (da_cons (de_var 2) da_nil)))))
  dss_nil)
  (dss_one (ds_ret (de_tup (da_cons de_str (da_cons (de_var 3) (da_cons (de_tup (da_cons (de_ix x_seq d_ix ((de_ix x_seq d_ix ((de_var 1)).toB ((de_var 3)).toB)).toB (de_int).toB) (da_cons (de_call G_holder_ahead hr T.g_holder_ahead T.F_holder_ahead.kp T.b_holder_ahead (da_cons (de_var 0) (da_cons (de_var 1) (da_cons (de_var 3) da_nil)))) (da_cons (de_ix x_seq d_ix ((de_ix x_seq d_ix ((de_var 1)).toB ((de_var 3)).toB)).toB (de_int).toB) da_nil)))) da_nil))))))))))⟩
theorem ok_is_entry (T : Tx K mg a_is_whole a_is_within a_holder_ahead a_is_early a_is_break a_breaks a_find_chain a_is_entry a_mends a_are_never a_judge_chain a_law_cell a_law_numbers a_law_same a_law_draws a_law_says a_law_entries a_law_breaks a_law_holder a_law_due a_law_accepts a_law_papers a_law_chain_holds a_law d_is_whole d_is_within d_holder_ahead d_is_early d_is_break d_breaks d_find_chain d_is_entry d_mends d_are_never d_judge_chain d_law_cell d_law_numbers d_law_same d_law_draws d_law_says d_law_entries d_law_breaks d_law_holder d_law_due d_law_accepts d_law_papers d_law_chain_holds d_law) : FnOk P w K mg base CX0 1 a_is_entry d_is_entry ["entry"] (spD false K sp_is_entry) :=
  fnD T.F_is_entry sc_is_entry sp_is_entry_len hf_is_entry fun cdv A outer s H E hr => by
    exact ⟨_, (dss_one (ds_ret (de_and (de_cmp (o_eq hr) d_eq ((de_blt c_len d_len T.m_len (dab_cons ((de_var 0)).toB dab_nil))).toB (de_int).toB (nomark _)) (de_one (de_cmp o_ge d_ge ((de_blt (c_minA rfl) d_minA T.m_min (dab_cons ((de_var 0)).toB dab_nil))).toB (de_int).toB (nomark _))))))⟩
theorem ok_mends (T : Tx K mg a_is_whole a_is_within a_holder_ahead a_is_early a_is_break a_breaks a_find_chain a_is_entry a_mends a_are_never a_judge_chain a_law_cell a_law_numbers a_law_same a_law_draws a_law_says a_law_entries a_law_breaks a_law_holder a_law_due a_law_accepts a_law_papers a_law_chain_holds a_law d_is_whole d_is_within d_holder_ahead d_is_early d_is_break d_breaks d_find_chain d_is_entry d_mends d_are_never d_judge_chain d_law_cell d_law_numbers d_law_same d_law_draws d_law_says d_law_entries d_law_breaks d_law_holder d_law_due d_law_accepts d_law_papers d_law_chain_holds d_law) : FnOk P w K mg base CX0 4 a_mends d_mends ["first", "entries", "k", "entry"] (spD false K sp_mends) :=
  fnD T.F_mends sc_mends sp_mends_len hf_mends fun cdv A outer s H E hr => by
    have G_breaks := (ok_breaks (P := P) (w := w) (base := base) T).mono (show 3 ≤ 3 by decide)
    have G_is_entry := (ok_is_entry (P := P) (w := w) (base := base) T).mono (show 1 ≤ 3 by decide)
    have G_is_within := (ok_is_within (P := P) (w := w) (base := base) T).mono (show 2 ≤ 3 by decide)
    exact ⟨_, (dss_cons (ds_if ((dw_or (dt_not (dt_tru ((de_call G_breaks hr T.g_breaks T.F_breaks.kp T.b_breaks (da_cons (de_var 0) (da_cons (de_var 1) da_nil)))).toB)) (dw_or (dt_not (dt_tru ((de_call G_is_within hr T.g_is_within T.F_is_within.kp T.b_is_within (da_cons (de_var 2) (da_cons de_int (da_cons (de_blt c_len d_len T.m_len (dab_cons ((de_var 1)).toB dab_nil)) da_nil))))).toB)) (dw_or1 (dt_not (dt_tru ((de_call G_is_entry hr T.g_is_entry T.F_is_entry.kp T.b_is_entry (da_cons (de_var 3) da_nil))).toB)))))).toT
  (dss_one (ds_ret de_bl))
  dss_nil)
  (dss_one (ds_ret (de_notT ((de_call G_breaks hr T.g_breaks T.F_breaks.kp T.b_breaks (da_cons (de_var 0) (da_cons (de_op o_add d_add ((de_op o_add d_add ((df_slice ((de_var 1)).toB do_none (do_some (de_var 2)))).toB ((df_lst (da_cons (de_var 3) da_nil))).toB)).toB ((df_slice ((de_var 1)).toB (do_some (de_var 2)) do_none)).toB) da_nil)))).toB))))⟩
theorem ok_are_never (T : Tx K mg a_is_whole a_is_within a_holder_ahead a_is_early a_is_break a_breaks a_find_chain a_is_entry a_mends a_are_never a_judge_chain a_law_cell a_law_numbers a_law_same a_law_draws a_law_says a_law_entries a_law_breaks a_law_holder a_law_due a_law_accepts a_law_papers a_law_chain_holds a_law d_is_whole d_is_within d_holder_ahead d_is_early d_is_break d_breaks d_find_chain d_is_entry d_mends d_are_never d_judge_chain d_law_cell d_law_numbers d_law_same d_law_draws d_law_says d_law_entries d_law_breaks d_law_holder d_law_due d_law_accepts d_law_papers d_law_chain_holds d_law) : FnOk P w K mg base CX0 3 a_are_never d_are_never ["first", "entries", "some"] (spD false K sp_are_never) :=
  fnD T.F_are_never sc_are_never sp_are_never_len hf_are_never fun cdv A outer s H E hr => by
    have G_is_break := (ok_is_break (P := P) (w := w) (base := base) T).mono (show 2 ≤ 2 by decide)
    have G_is_early := (ok_is_early (P := P) (w := w) (base := base) T).mono (show 1 ≤ 2 by decide)
    have G_is_within := (ok_is_within (P := P) (w := w) (base := base) T).mono (show 2 ≤ 2 by decide)
    exact ⟨_, (dss_cons (ds_if (dt_not (dt_tru ((de_blt (c_all rfl) d_bls T.m_all (dab_cons ((df_lc rfl sc_are_never.nd (di_list (de_var 2)) (blk_ok ["first", "entries", "some", "k"] (defScope s_are_never) (by decide +kernel)) (fun _ _ _ _ _ => (dg_name 3 sc_are_never.nd)) (fun _ _ _ _ _ => dts_nil) (fun _ _ _ _ _ => (de_and (de_call G_is_within hr T.g_is_within T.F_is_within.kp T.b_is_within (da_cons (de_var 3) (da_cons de_int (da_cons (de_op o_sub d_sub ((de_blt c_len d_len T.m_len (dab_cons ((de_var 1)).toB dab_nil))).toB (de_int).toB) da_nil)))) (de_one (de_call G_is_break hr T.g_is_break T.F_is_break.kp T.b_is_break (da_cons (de_var 0) (da_cons (de_var 1) (da_cons (de_var 3) da_nil))))))) (own := [("k", 3)]))).toB dab_nil))).toB))
  (dss_one (ds_ret de_bl))
  dss_nil)
  (dss_cons (ds_if (dt_not (dt_tru ((de_blt (c_all rfl) d_bls T.m_all (dab_cons ((df_lc rfl sc_are_never.nd (di_range2 T.m_range (da_cons de_int (da_cons (de_blt c_len d_len T.m_len (dab_cons ((de_var 2)).toB dab_nil)) da_nil))) (blk_ok ["first", "entries", "some", "k"] (defScope s_are_never) (by decide +kernel)) (fun _ _ _ _ _ => (dg_name 3 sc_are_never.nd)) (fun _ _ _ _ _ => dts_nil) (fun _ _ _ _ _ => (de_cmp o_lt d_lt ((de_ix x_seq d_ix ((de_var 2)).toB ((de_op o_sub d_sub ((de_var 3)).toB (de_int).toB)).toB)).toB ((de_ix x_seq d_ix ((de_var 2)).toB ((de_var 3)).toB)).toB (nomark _))) (own := [("k", 3)]))).toB dab_nil))).toB))
  (dss_one (ds_ret de_bl))
  dss_nil)
  (dss_one (ds_ret (de_or (de_cmp o_gt d_gt ((de_blt c_len d_len T.m_len (dab_cons ((de_var 2)).toB dab_nil))).toB (de_int).toB (nomark _)) (de_one (de_and (de_cmp (o_eq hr) d_eq ((de_blt c_len d_len T.m_len (dab_cons ((de_var 2)).toB dab_nil))).toB (de_int).toB (nomark _)) (de_one (de_call G_is_early hr T.g_is_early T.F_is_early.kp T.b_is_early (da_cons (de_var 1) (da_cons (de_ix x_seq d_ix ((de_var 2)).toB (de_int).toB) da_nil)))))))))))⟩
theorem ok_judge_chain (T : Tx K mg a_is_whole a_is_within a_holder_ahead a_is_early a_is_break a_breaks a_find_chain a_is_entry a_mends a_are_never a_judge_chain a_law_cell a_law_numbers a_law_same a_law_draws a_law_says a_law_entries a_law_breaks a_law_holder a_law_due a_law_accepts a_law_papers a_law_chain_holds a_law d_is_whole d_is_within d_holder_ahead d_is_early d_is_break d_breaks d_find_chain d_is_entry d_mends d_are_never d_judge_chain d_law_cell d_law_numbers d_law_same d_law_draws d_law_says d_law_entries d_law_breaks d_law_holder d_law_due d_law_accepts d_law_papers d_law_chain_holds d_law) : FnOk P w K mg base CX0 5 a_judge_chain d_judge_chain ["first", "entries", "verdict"] (spD false K sp_judge_chain) :=
  fnD T.F_judge_chain sc_judge_chain sp_judge_chain_len hf_judge_chain fun cdv A outer s H E hr => by
    have G_are_never := (ok_are_never (P := P) (w := w) (base := base) T).mono (show 3 ≤ 4 by decide)
    have G_breaks := (ok_breaks (P := P) (w := w) (base := base) T).mono (show 3 ≤ 4 by decide)
    have G_holder_ahead := (ok_holder_ahead (P := P) (w := w) (base := base) T).mono (show 1 ≤ 4 by decide)
    have G_mends := (ok_mends (P := P) (w := w) (base := base) T).mono (show 4 ≤ 4 by decide)
    exact ⟨_, (dss_cons (ds_if (dt_cmp (o_eq hr) d_eq ((de_blt c_len d_len T.m_len (dab_cons ((de_var 2)).toB dab_nil))).toB (de_int).toB (nomark _))
  (dss_one (ds_ret (de_and (de_cmp (o_eq hr) d_eq ((de_ix x_seq d_ix ((de_var 2)).toB (de_int).toB)).toB (de_str).toB (nomark _)) (de_one (de_call G_mends hr T.g_mends T.F_mends.kp T.b_mends (da_cons (de_var 0) (da_cons (de_var 1) (da_cons (de_ix x_seq d_ix ((de_var 2)).toB (de_int).toB) (da_cons (de_ix x_seq d_ix ((de_var 2)).toB (de_int).toB) da_nil)))))))))
  dss_nil)
  (dss_cons (ds_if (dt_cmp (o_ne hr) d_ne ((de_blt c_len d_len T.m_len (dab_cons ((de_var 2)).toB dab_nil))).toB (de_int).toB (nomark _))
  (dss_one (ds_ret de_bl))
  dss_nil)
  (dss_cons (ds_if (dt_cmp (o_eq hr) d_eq ((de_ix x_seq d_ix ((de_var 2)).toB (de_int).toB)).toB (de_str).toB (nomark _))
  (dss_one (ds_ret (de_and (de_notT ((de_call G_breaks hr T.g_breaks T.F_breaks.kp T.b_breaks (da_cons (de_var 0) (da_cons (de_var 1) da_nil)))).toB) (de_one (de_cmp (o_eq hr) d_eq ((de_ix x_seq d_ix ((de_var 2)).toB (de_int).toB)).toB ((de_call G_holder_ahead hr T.g_holder_ahead T.F_holder_ahead.kp T.b_holder_ahead (da_cons (de_var 0) (da_cons (de_var 1) (da_cons (de_blt c_len d_len T.m_len (dab_cons ((de_var 1)).toB dab_nil)) da_nil))))).toB (nomark _))))))
  dss_nil)
  (dss_one (ds_ret (de_and (de_cmp (o_eq hr) d_eq ((de_ix x_seq d_ix ((de_var 2)).toB (de_int).toB)).toB (de_str).toB (nomark _)) (de_one (de_call G_are_never hr T.g_are_never T.F_are_never.kp T.b_are_never (da_cons (de_var 0) (da_cons (de_var 1) (da_cons (de_ix x_seq d_ix ((de_var 2)).toB (de_int).toB) da_nil)))))))))))⟩
theorem ok_law_cell (T : Tx K mg a_is_whole a_is_within a_holder_ahead a_is_early a_is_break a_breaks a_find_chain a_is_entry a_mends a_are_never a_judge_chain a_law_cell a_law_numbers a_law_same a_law_draws a_law_says a_law_entries a_law_breaks a_law_holder a_law_due a_law_accepts a_law_papers a_law_chain_holds a_law d_is_whole d_is_within d_holder_ahead d_is_early d_is_break d_breaks d_find_chain d_is_entry d_mends d_are_never d_judge_chain d_law_cell d_law_numbers d_law_same d_law_draws d_law_says d_law_entries d_law_breaks d_law_holder d_law_due d_law_accepts d_law_papers d_law_chain_holds d_law) : FnOk P w K mg base CX0 1 a_law_cell d_law_cell ["script", "k"] (spD false K sp_law_cell) :=
  fnD T.F_law_cell sc_law_cell sp_law_cell_len hf_law_cell fun cdv A outer s H E hr => by
    exact ⟨_, (dss_cons (ds_if (dt_cmp o_lt d_lt ((de_var 1)).toB ((de_blt c_len d_len T.m_len (dab_cons ((de_var 0)).toB dab_nil))).toB (nomark _))
  (dss_one (ds_ret (de_ty c_int d_int T.m_int (dab_cons ((de_ix x_seq d_ix ((de_var 0)).toB ((de_var 1)).toB)).toB dab_nil))))
  dss_nil)
  (dss_one (ds_ret de_int)))⟩
theorem ok_law_numbers (T : Tx K mg a_is_whole a_is_within a_holder_ahead a_is_early a_is_break a_breaks a_find_chain a_is_entry a_mends a_are_never a_judge_chain a_law_cell a_law_numbers a_law_same a_law_draws a_law_says a_law_entries a_law_breaks a_law_holder a_law_due a_law_accepts a_law_papers a_law_chain_holds a_law d_is_whole d_is_within d_holder_ahead d_is_early d_is_break d_breaks d_find_chain d_is_entry d_mends d_are_never d_judge_chain d_law_cell d_law_numbers d_law_same d_law_draws d_law_says d_law_entries d_law_breaks d_law_holder d_law_due d_law_accepts d_law_papers d_law_chain_holds d_law) : FnOk P w K mg base CX0 1 a_law_numbers d_law_numbers ["cell", "count", "limit"] (spD false K sp_law_numbers) :=
  fnD T.F_law_numbers sc_law_numbers sp_law_numbers_len hf_law_numbers fun cdv A outer s H E hr => by
    exact ⟨_, (dss_cons (ds_own 3 sc_law_numbers.nd (df_lst da_nil))
  (dss_cons (ds_if (dt_cmp o_ge d_ge ((de_var 0)).toB ((de_op o_pow d_pow (de_int).toB (de_int).toB)).toB (nomark _))
  (dss_cons (ds_for PassesOwn.never rfl (di_range1 T.m_range (da_cons (de_var 1) da_nil)) (dg_name 4 sc_law_numbers.nd)
  (dss_cons (ds_app 3 (de_op o_mod d_mod ((de_ty c_int d_int T.m_int (dab_cons ((de_var 0)).toB dab_nil))).toB ((de_var 2)).toB))
  (dss_one (ds_set 0 sc_law_numbers.nd (de_op o_div d_div ((de_ty c_int d_int T.m_int (dab_cons ((de_var 0)).toB dab_nil))).toB ((de_var 2)).toB)))))
  (dss_one (ds_retV 3)))
  dss_nil)
  (dss_cons (ds_for PassesOwn.never rfl (di_range1 T.m_range (da_cons (de_var 1) da_nil)) (dg_name 4 sc_law_numbers.nd)
  (dss_cons (ds_set 5 sc_law_numbers.nd (de_op o_mod d_mod ((de_ty c_int d_int T.m_int (dab_cons ((de_op o_add d_add ((de_op o_add d_add ((de_op o_mul d_mul ((de_var 0)).toB (de_int).toB)).toB ((de_op o_mul d_mul ((de_var 4)).toB (de_int).toB)).toB)).toB (de_int).toB)).toB dab_nil))).toB (de_int).toB))
  (dss_cons (ds_set 5 sc_law_numbers.nd (de_op o_mod d_mod ((de_ty c_int d_int T.m_int (dab_cons ((de_op o_add d_add ((de_op o_add d_add ((de_op o_add d_add ((de_op o_mul d_mul ((de_var 5)).toB ((de_var 5)).toB)).toB ((de_op o_mul d_mul ((de_var 5)).toB (de_int).toB)).toB)).toB ((de_op o_mul d_mul ((de_var 4)).toB (de_int).toB)).toB)).toB (de_int).toB)).toB dab_nil))).toB (de_int).toB))
  (dss_one (ds_app 3 (de_op o_mod d_mod ((de_ty c_int d_int T.m_int (dab_cons ((de_op o_div d_div ((de_var 5)).toB (de_int).toB)).toB dab_nil))).toB ((de_var 2)).toB))))))
  (dss_one (ds_retV 3)))))⟩
theorem ok_law_same_rec (T : Tx K mg a_is_whole a_is_within a_holder_ahead a_is_early a_is_break a_breaks a_find_chain a_is_entry a_mends a_are_never a_judge_chain a_law_cell a_law_numbers a_law_same a_law_draws a_law_says a_law_entries a_law_breaks a_law_holder a_law_due a_law_accepts a_law_papers a_law_chain_holds a_law d_is_whole d_is_within d_holder_ahead d_is_early d_is_break d_breaks d_find_chain d_is_entry d_mends d_are_never d_judge_chain d_law_cell d_law_numbers d_law_same d_law_draws d_law_says d_law_entries d_law_breaks d_law_holder d_law_due d_law_accepts d_law_papers d_law_chain_holds d_law) : ∀ n : Nat, FnOk P w K mg base CX0 (n + 1) a_law_same d_law_same ["told", "due"] (spD false K (sp_law_same_n n))
  | 0 => fnD T.F_law_same sc_law_same sp_law_same_len (hf_law_same 0) fun cdv A outer s H E hr => by
    have G_law_same : FnOk P w K mg base CX0 0 a_law_same d_law_same ["told", "due"] (spD false K fun _ _ => False) := ⟨fun vs H Q E h => (let ⟨_, _, _, _, _, z, _⟩ := h; z.elim), fun A outer s H args us vs Q E hr he hb hv h => (let ⟨_, _, _, _, _, z, _⟩ := h; z.elim)⟩
    exact ⟨_, (dss_cons (ds_if (dt_tru ((de_isi (T := "list") ((de_var 1)).toB T.m_isinstance T.m_list (by decide +kernel) kit_list)).toB)
  (dss_one (ds_if ((dw_or (dt_not (dt_tru ((de_isi (T := "list") ((de_var 0)).toB T.m_isinstance T.m_list (by decide +kernel) kit_list)).toB)) (dw_or1 (dt_cmp (o_ne hr) d_ne ((de_blt c_len d_len T.m_len (dab_cons ((de_var 0)).toB dab_nil))).toB ((de_blt c_len d_len T.m_len (dab_cons ((de_var 1)).toB dab_nil))).toB (nomark _))))).toT
  (dss_one (ds_ret de_bl))
  dss_nil))
  (dss_one (ds_if (dt_tru ((de_isi (T := "tuple") ((de_var 1)).toB T.m_isinstance T.m_tuple (by decide +kernel) kit_tuple)).toB)
  (dss_one (ds_if ((dw_or (dt_not (dt_tru ((de_isi (T := "tuple") ((de_var 0)).toB T.m_isinstance T.m_tuple (by decide +kernel) kit_tuple)).toB)) (dw_or1 (dt_cmp (o_ne hr) d_ne ((de_blt c_len d_len T.m_len (dab_cons ((de_var 0)).toB dab_nil))).toB ((de_blt c_len d_len T.m_len (dab_cons ((de_var 1)).toB dab_nil))).toB (nomark _))))).toT
  (dss_one (ds_ret de_bl))
  dss_nil))
  (dss_one (ds_if (dt_isN ((de_var 1)).toB)
  (dss_one (ds_ret (de_isN ((de_var 0)).toB)))
  (dss_one (ds_if (dt_tru ((de_isi (T := "bool") ((de_var 1)).toB T.m_isinstance T.m_bool (by decide +kernel) kit_bool)).toB)
  (dss_one (ds_ret (de_and (de_isi (T := "bool") ((de_var 0)).toB T.m_isinstance T.m_bool (by decide +kernel) kit_bool) (de_one (de_cmp (o_eq hr) d_eq ((de_var 0)).toB ((de_var 1)).toB (nomark _))))))
  (dss_one (ds_if (dt_tru ((de_isi (T := "int") ((de_var 1)).toB T.m_isinstance T.m_int (by decide +kernel) kit_int)).toB)
  (dss_one (ds_ret (de_and (de_isi (T := "int") ((de_var 0)).toB T.m_isinstance T.m_int (by decide +kernel) kit_int) (de_and (de_notT ((de_isi (T := "bool") ((de_var 0)).toB T.m_isinstance T.m_bool (by decide +kernel) kit_bool)).toB) (de_one (de_cmp (o_eq hr) d_eq ((de_var 0)).toB ((de_var 1)).toB (nomark _)))))))
  (dss_one (ds_ret (de_and (de_isi (T := "str") ((de_var 0)).toB T.m_isinstance T.m_str (by decide +kernel) kit_str) (de_one (de_cmp (o_eq hr) d_eq ((de_var 0)).toB ((de_var 1)).toB (nomark _)))))))))))))))
  (dss_cons (ds_for PassesOwn.never rfl (di_range1 T.m_range (da_cons (de_blt c_len d_len T.m_len (dab_cons ((de_var 1)).toB dab_nil)) da_nil)) (dg_name 2 sc_law_same.nd)
  (dss_one (ds_if (dt_not (dt_tru ((de_call G_law_same hr T.g_law_same T.F_law_same.kp T.b_law_same (da_cons (de_ix x_seq d_ix ((de_var 0)).toB ((de_var 2)).toB) (da_cons (de_ix x_seq d_ix ((de_var 1)).toB ((de_var 2)).toB) da_nil)))).toB))
  (dss_one (ds_ret de_bl))
  dss_nil)))
  (dss_one (ds_ret de_bl))))⟩
  | n + 1 => fnD T.F_law_same sc_law_same sp_law_same_len (hf_law_same (n + 1)) fun cdv A outer s H E hr => by
    have G_law_same := ok_law_same_rec T n
    exact ⟨_, (dss_cons (ds_if (dt_tru ((de_isi (T := "list") ((de_var 1)).toB T.m_isinstance T.m_list (by decide +kernel) kit_list)).toB)
  (dss_one (ds_if ((dw_or (dt_not (dt_tru ((de_isi (T := "list") ((de_var 0)).toB T.m_isinstance T.m_list (by decide +kernel) kit_list)).toB)) (dw_or1 (dt_cmp (o_ne hr) d_ne ((de_blt c_len d_len T.m_len (dab_cons ((de_var 0)).toB dab_nil))).toB ((de_blt c_len d_len T.m_len (dab_cons ((de_var 1)).toB dab_nil))).toB (nomark _))))).toT
  (dss_one (ds_ret de_bl))
  dss_nil))
  (dss_one (ds_if (dt_tru ((de_isi (T := "tuple") ((de_var 1)).toB T.m_isinstance T.m_tuple (by decide +kernel) kit_tuple)).toB)
  (dss_one (ds_if ((dw_or (dt_not (dt_tru ((de_isi (T := "tuple") ((de_var 0)).toB T.m_isinstance T.m_tuple (by decide +kernel) kit_tuple)).toB)) (dw_or1 (dt_cmp (o_ne hr) d_ne ((de_blt c_len d_len T.m_len (dab_cons ((de_var 0)).toB dab_nil))).toB ((de_blt c_len d_len T.m_len (dab_cons ((de_var 1)).toB dab_nil))).toB (nomark _))))).toT
  (dss_one (ds_ret de_bl))
  dss_nil))
  (dss_one (ds_if (dt_isN ((de_var 1)).toB)
  (dss_one (ds_ret (de_isN ((de_var 0)).toB)))
  (dss_one (ds_if (dt_tru ((de_isi (T := "bool") ((de_var 1)).toB T.m_isinstance T.m_bool (by decide +kernel) kit_bool)).toB)
  (dss_one (ds_ret (de_and (de_isi (T := "bool") ((de_var 0)).toB T.m_isinstance T.m_bool (by decide +kernel) kit_bool) (de_one (de_cmp (o_eq hr) d_eq ((de_var 0)).toB ((de_var 1)).toB (nomark _))))))
  (dss_one (ds_if (dt_tru ((de_isi (T := "int") ((de_var 1)).toB T.m_isinstance T.m_int (by decide +kernel) kit_int)).toB)
  (dss_one (ds_ret (de_and (de_isi (T := "int") ((de_var 0)).toB T.m_isinstance T.m_int (by decide +kernel) kit_int) (de_and (de_notT ((de_isi (T := "bool") ((de_var 0)).toB T.m_isinstance T.m_bool (by decide +kernel) kit_bool)).toB) (de_one (de_cmp (o_eq hr) d_eq ((de_var 0)).toB ((de_var 1)).toB (nomark _)))))))
  (dss_one (ds_ret (de_and (de_isi (T := "str") ((de_var 0)).toB T.m_isinstance T.m_str (by decide +kernel) kit_str) (de_one (de_cmp (o_eq hr) d_eq ((de_var 0)).toB ((de_var 1)).toB (nomark _)))))))))))))))
  (dss_cons (ds_for PassesOwn.never rfl (di_range1 T.m_range (da_cons (de_blt c_len d_len T.m_len (dab_cons ((de_var 1)).toB dab_nil)) da_nil)) (dg_name 2 sc_law_same.nd)
  (dss_one (ds_if (dt_not (dt_tru ((de_call G_law_same hr T.g_law_same T.F_law_same.kp T.b_law_same (da_cons (de_ix x_seq d_ix ((de_var 0)).toB ((de_var 2)).toB) (da_cons (de_ix x_seq d_ix ((de_var 1)).toB ((de_var 2)).toB) da_nil)))).toB))
  (dss_one (ds_ret de_bl))
  dss_nil)))
  (dss_one (ds_ret de_bl))))⟩
theorem ok_law_same (T : Tx K mg a_is_whole a_is_within a_holder_ahead a_is_early a_is_break a_breaks a_find_chain a_is_entry a_mends a_are_never a_judge_chain a_law_cell a_law_numbers a_law_same a_law_draws a_law_says a_law_entries a_law_breaks a_law_holder a_law_due a_law_accepts a_law_papers a_law_chain_holds a_law d_is_whole d_is_within d_holder_ahead d_is_early d_is_break d_breaks d_find_chain d_is_entry d_mends d_are_never d_judge_chain d_law_cell d_law_numbers d_law_same d_law_draws d_law_says d_law_entries d_law_breaks d_law_holder d_law_due d_law_accepts d_law_papers d_law_chain_holds d_law) : FnOk P w K mg base CX0 9 a_law_same d_law_same ["told", "due"] (spD false K sp_law_same) := ok_law_same_rec T 8
theorem ok_law_draws (T : Tx K mg a_is_whole a_is_within a_holder_ahead a_is_early a_is_break a_breaks a_find_chain a_is_entry a_mends a_are_never a_judge_chain a_law_cell a_law_numbers a_law_same a_law_draws a_law_says a_law_entries a_law_breaks a_law_holder a_law_due a_law_accepts a_law_papers a_law_chain_holds a_law d_is_whole d_is_within d_holder_ahead d_is_early d_is_break d_breaks d_find_chain d_is_entry d_mends d_are_never d_judge_chain d_law_cell d_law_numbers d_law_same d_law_draws d_law_says d_law_entries d_law_breaks d_law_holder d_law_due d_law_accepts d_law_papers d_law_chain_holds d_law) : FnOk P w K mg base CX0 2 a_law_draws d_law_draws ["script", "k", "count"] (spD false K sp_law_draws) :=
  fnD T.F_law_draws sc_law_draws sp_law_draws_len hf_law_draws fun cdv A outer s H E hr => by
    have G_law_cell := (ok_law_cell (P := P) (w := w) (base := base) T).mono (show 1 ≤ 1 by decide)
    have G_law_numbers := (ok_law_numbers (P := P) (w := w) (base := base) T).mono (show 1 ≤ 1 by decide)
    exact ⟨_, (dss_one (ds_ret (de_call G_law_numbers hr T.g_law_numbers T.F_law_numbers.kp T.b_law_numbers (da_cons (de_op o_add d_add ((de_call G_law_cell hr T.g_law_cell T.F_law_cell.kp T.b_law_cell (da_cons (de_var 0) (da_cons (de_var 1) da_nil)))).toB ((de_op o_mul d_mul (de_int).toB ((de_var 1)).toB)).toB) (da_cons (de_var 2) (da_cons de_int da_nil))))))⟩
theorem ok_law_says (T : Tx K mg a_is_whole a_is_within a_holder_ahead a_is_early a_is_break a_breaks a_find_chain a_is_entry a_mends a_are_never a_judge_chain a_law_cell a_law_numbers a_law_same a_law_draws a_law_says a_law_entries a_law_breaks a_law_holder a_law_due a_law_accepts a_law_papers a_law_chain_holds a_law d_is_whole d_is_within d_holder_ahead d_is_early d_is_break d_breaks d_find_chain d_is_entry d_mends d_are_never d_judge_chain d_law_cell d_law_numbers d_law_same d_law_draws d_law_says d_law_entries d_law_breaks d_law_holder d_law_due d_law_accepts d_law_papers d_law_chain_holds d_law) : FnOk P w K mg base CX0 1 a_law_says d_law_says ["told", "due"] (spD false K sp_law_says) :=
  fnD T.F_law_says sc_law_says sp_law_says_len hf_law_says fun cdv A outer s H E hr => by
    exact ⟨_, (dss_one (ds_ret (de_and (de_isi (T := "bool") ((de_var 0)).toB T.m_isinstance T.m_bool (by decide +kernel) kit_bool) (de_one (de_cmp (o_eq hr) d_eq ((de_var 0)).toB ((de_var 1)).toB (nomark _))))))⟩
theorem ok_law_entries (T : Tx K mg a_is_whole a_is_within a_holder_ahead a_is_early a_is_break a_breaks a_find_chain a_is_entry a_mends a_are_never a_judge_chain a_law_cell a_law_numbers a_law_same a_law_draws a_law_says a_law_entries a_law_breaks a_law_holder a_law_due a_law_accepts a_law_papers a_law_chain_holds a_law d_is_whole d_is_within d_holder_ahead d_is_early d_is_break d_breaks d_find_chain d_is_entry d_mends d_are_never d_judge_chain d_law_cell d_law_numbers d_law_same d_law_draws d_law_says d_law_entries d_law_breaks d_law_holder d_law_due d_law_accepts d_law_papers d_law_chain_holds d_law) : FnOk P w K mg base CX0 3 a_law_entries d_law_entries ["script", "draws"] (spD false K sp_law_entries) :=
  fnD T.F_law_entries sc_law_entries sp_law_entries_len hf_law_entries fun cdv A outer s H E hr => by
    have G_law_draws := (ok_law_draws (P := P) (w := w) (base := base) T).mono (show 2 ≤ 2 by decide)
    exact ⟨_, (dss_cons (ds_setLc 2 rfl sc_law_entries.nd (di_enum T.m_enumerate (da_cons (de_call G_law_draws hr T.g_law_draws T.F_law_draws.kp T.b_law_draws (da_cons (de_var 0) (da_cons de_int (da_cons de_int da_nil)))) da_nil)) (blk_ok ["script", "draws", "persons", "cells", "first", "found", "holder", "day", "k", "taker", "cell"] (defScope s_law_entries) (by decide +kernel)) (fun _ _ _ _ _ => (dg_tup rfl (dgs_cons (dg_name 8 sc_law_entries.nd) (dgs_cons (dg_name 10 sc_law_entries.nd) dgs_nil)))) (fun _ _ _ _ _ => dts_nil) (fun _ _ _ _ _ => (de_op o_add d_add ((de_op o_mul d_mul ((de_var 10)).toB ((de_ix x_seq d_ix ((df_lst (da_cons de_int (da_cons de_int da_nil)))).toB ((de_op o_mod d_mod ((de_ix x_seq d_ix ((de_var 1)).toB (de_int).toB)).toB (de_int).toB)).toB)).toB)).toB ((de_var 8)).toB)) (own := [("k", 8), ("cell", 10)]))
  (dss_cons (ds_set 3 sc_law_entries.nd (de_call G_law_draws hr T.g_law_draws T.F_law_draws.kp T.b_law_draws (da_cons (de_var 0) (da_cons de_int (da_cons de_int da_nil)))))
  (dss_cons (ds_set 4 sc_law_entries.nd (de_ix x_seq d_ix ((de_var 2)).toB ((de_op o_mod d_mod ((de_ix x_seq d_ix ((de_var 1)).toB (de_int).toB)).toB (de_int).toB)).toB))
  (dss_cons (ds_own 5 sc_law_entries.nd (df_lst da_nil))
  (dss_cons (ds_set 6 sc_law_entries.nd (de_var 4))
  (dss_cons (ds_set 7 sc_law_entries.nd (de_op o_mod d_mod ((de_ix x_seq d_ix ((de_var 1)).toB (de_int).toB)).toB (de_int).toB))
  (dss_cons (ds_for PassesOwn.never rfl (di_range1 T.m_range (da_cons (de_op o_add d_add (de_int).toB ((de_op o_mod d_mod ((de_ix x_seq d_ix ((de_var 1)).toB (de_int).toB)).toB (de_int).toB)).toB) da_nil)) (dg_name 8 sc_law_entries.nd)
  (dss_cons (ds_set 7 sc_law_entries.nd (de_op o_add d_add ((de_var 7)).toB ((de_op o_mod d_mod ((de_ix x_seq d_ix ((de_var 3)).toB ((de_var 8)).toB)).toB ((de_ix x_seq d_ix ((df_lst (da_cons de_int (da_cons de_int (da_cons de_int da_nil))))).toB ((de_op o_mod d_mod ((de_ix x_seq d_ix ((de_var 1)).toB (de_int).toB)).toB (de_int).toB)).toB)).toB)).toB))
  (dss_cons (ds_set 9 sc_law_entries.nd (de_ix x_seq d_ix ((de_var 2)).toB ((de_op o_mod d_mod ((de_op o_div d_div ((de_ix x_seq d_ix ((de_var 3)).toB ((de_var 8)).toB)).toB (de_int).toB)).toB (de_int).toB)).toB))
  (dss_cons (ds_app 5 (de_tup (da_cons (de_var 7) (da_cons (de_var 6) (da_cons (de_var 9) da_nil)))))
  (dss_one (ds_set 6 sc_law_entries.nd (de_var 9)))))))
  (ds_frz 5 (dss_one (ds_ret (de_tup (da_cons (de_var 4) (da_cons (de_var 5) (da_cons (de_var 2) da_nil))))))))))))))⟩
theorem ok_law_breaks (T : Tx K mg a_is_whole a_is_within a_holder_ahead a_is_early a_is_break a_breaks a_find_chain a_is_entry a_mends a_are_never a_judge_chain a_law_cell a_law_numbers a_law_same a_law_draws a_law_says a_law_entries a_law_breaks a_law_holder a_law_due a_law_accepts a_law_papers a_law_chain_holds a_law d_is_whole d_is_within d_holder_ahead d_is_early d_is_break d_breaks d_find_chain d_is_entry d_mends d_are_never d_judge_chain d_law_cell d_law_numbers d_law_same d_law_draws d_law_says d_law_entries d_law_breaks d_law_holder d_law_due d_law_accepts d_law_papers d_law_chain_holds d_law) : FnOk P w K mg base CX0 1 a_law_breaks d_law_breaks ["first", "entries"] (spD false K sp_law_breaks) :=
  fnD T.F_law_breaks sc_law_breaks sp_law_breaks_len hf_law_breaks fun cdv A outer s H E hr => by
    exact ⟨_, (dss_cons (ds_own 2 sc_law_breaks.nd (df_lst da_nil))
  (dss_cons (ds_set 3 sc_law_breaks.nd (de_var 0))
  (dss_cons (ds_for PassesOwn.never rfl (di_range1 T.m_range (da_cons (de_blt c_len d_len T.m_len (dab_cons ((de_var 1)).toB dab_nil)) da_nil)) (dg_name 4 sc_law_breaks.nd)
  (dss_cons (ds_asg (de_ix x_seq d_ix ((de_var 1)).toB ((de_var 4)).toB) (dg_tup rfl (dgs_cons (dg_name 5 sc_law_breaks.nd) (dgs_cons (dg_name 6 sc_law_breaks.nd) (dgs_cons (dg_name 7 sc_law_breaks.nd) dgs_nil)))))
  (dss_cons (ds_if ((dw_or (dt_cmp (o_ne hr) d_ne ((de_var 6)).toB ((de_var 3)).toB (nomark _)) (dw_or1 ((dw_and (dt_cmp o_gt d_gt ((de_var 4)).toB (de_int).toB (nomark _)) (dw_and1 (dt_cmp o_lt d_lt ((de_var 5)).toB ((de_ix x_seq d_ix ((de_ix x_seq d_ix ((de_var 1)).toB ((de_op o_sub d_sub ((de_var 4)).toB (de_int).toB)).toB)).toB (de_int).toB)).toB (nomark _))))).toT))).toT
  (dss_one (ds_app 2 (de_var 4)))
  dss_nil)
  (dss_one (ds_set 3 sc_law_breaks.nd (de_var 7))))))
  (dss_one (ds_retV 2)))))⟩
theorem ok_law_holder (T : Tx K mg a_is_whole a_is_within a_holder_ahead a_is_early a_is_break a_breaks a_find_chain a_is_entry a_mends a_are_never a_judge_chain a_law_cell a_law_numbers a_law_same a_law_draws a_law_says a_law_entries a_law_breaks a_law_holder a_law_due a_law_accepts a_law_papers a_law_chain_holds a_law d_is_whole d_is_within d_holder_ahead d_is_early d_is_break d_breaks d_find_chain d_is_entry d_mends d_are_never d_judge_chain d_law_cell d_law_numbers d_law_same d_law_draws d_law_says d_law_entries d_law_breaks d_law_holder d_law_due d_law_accepts d_law_papers d_law_chain_holds d_law) : FnOk P w K mg base CX0 1 a_law_holder d_law_holder ["first", "entries", "k"] (spD false K sp_law_holder) :=
  fnD T.F_law_holder sc_law_holder sp_law_holder_len hf_law_holder fun cdv A outer s H E hr => by
    exact ⟨_, (dss_one (ds_ret (de_ix x_seq d_ix ((de_op o_add d_add ((df_lst (da_cons (de_var 0) da_nil))).toB ((df_lc rfl sc_law_holder.nd (di_list (de_var 1)) (blk_ok ["first", "entries", "k", "entry"] (defScope s_law_holder) (by decide +kernel)) (fun _ _ _ _ _ => (dg_name 3 sc_law_holder.nd)) (fun _ _ _ _ _ => dts_nil) (fun _ _ _ _ _ => (de_ix x_seq d_ix ((de_var 3)).toB (de_int).toB)) (own := [("entry", 3)]))).toB)).toB ((de_var 2)).toB)))⟩
theorem ok_law_due (T : Tx K mg a_is_whole a_is_within a_holder_ahead a_is_early a_is_break a_breaks a_find_chain a_is_entry a_mends a_are_never a_judge_chain a_law_cell a_law_numbers a_law_same a_law_draws a_law_says a_law_entries a_law_breaks a_law_holder a_law_due a_law_accepts a_law_papers a_law_chain_holds a_law d_is_whole d_is_within d_holder_ahead d_is_early d_is_break d_breaks d_find_chain d_is_entry d_mends d_are_never d_judge_chain d_law_cell d_law_numbers d_law_same d_law_draws d_law_says d_law_entries d_law_breaks d_law_holder d_law_due d_law_accepts d_law_papers d_law_chain_holds d_law) : FnOk P w K mg base CX0 2 a_law_due d_law_due ["first", "entries"] (spD false K sp_law_due) :=
  fnD T.F_law_due sc_law_due sp_law_due_len hf_law_due fun cdv A outer s H E hr => by
    have G_law_breaks := (ok_law_breaks (P := P) (w := w) (base := base) T).mono (show 1 ≤ 1 by decide)
    have G_law_holder := (ok_law_holder (P := P) (w := w) (base := base) T).mono (show 1 ≤ 1 by decide)
    exact ⟨_, (dss_cons (ds_set 2 sc_law_due.nd (de_call G_law_breaks hr T.g_law_breaks T.F_law_breaks.kp T.b_law_breaks (da_cons (de_var 0) (da_cons (de_var 1) da_nil))))
  (dss_cons (ds_if (dt_cmp (o_eq hr) d_eq ((de_blt c_len d_len T.m_len (dab_cons ((de_var 2)).toB dab_nil))).toB (de_int).toB (nomark _))
  (dss_one (ds_ret (de_tup (da_cons de_str (da_cons (de_call G_law_holder hr T.g_law_holder T.F_law_holder.kp T.b_law_holder (da_cons (de_var 0) (da_cons (de_var 1) (da_cons (de_blt c_len d_len T.m_len (dab_cons ((de_var 1)).toB dab_nil)) da_nil)))) da_nil)))))
  dss_nil)
  (dss_cons (ds_set 3 sc_law_due.nd (de_ix x_seq d_ix ((de_var 2)).toB (de_int).toB))
  (dss_cons (ds_if ((dw_and (dt_cmp (o_eq hr) d_eq ((de_blt c_len d_len T.m_len (dab_cons ((de_var 2)).toB dab_nil))).toB (de_int).toB (nomark _)) (dw_and1 ((dw_or (dt_cmp (o_eq hr) d_eq ((de_var 3)).toB (de_int).toB (nomark _)) (dw_or1 (dt_cmp o_ge d_ge ((de_ix x_seq d_ix ((de_ix x_seq d_ix ((de_var 1)).toB ((de_var 3)).toB)).toB (de_int).toB)).toB ((de_ix x_seq d_ix ((de_ix x_seq d_ix ((de_var 1)).toB ((de_op o_sub d_sub ((de_var 3)).toB (de_int).toB)).toB)).toB (de_int).toB)).toB (nomark _))))).toT))).toT
  (dss_one (ds_ret (de_tup (da_cons de_str (da_cons (de_var 3) (da_cons (de_tup (da_cons (de_ix x_seq d_ix ((de_ix x_seq d_ix ((de_var 1)).toB ((de_var 3)).toB)).toB (de_int).toB) (da_cons (de_call G_law_holder hr T.g_law_holder T.F_law_holder.kp T.b_law_holder (da_cons (de_var 0) (da_cons (de_var 1) (da_cons (de_var 3) da_nil)))) (da_cons (de_ix x_seq d_ix ((de_ix x_seq d_ix ((de_var 1)).toB ((de_var 3)).toB)).toB (de_int).toB) da_nil)))) da_nil))))))
  dss_nil)
  (dss_one (ds_ret (de_tup (da_cons de_str (da_cons (de_var 2) da_nil)))))))))⟩
theorem ok_law_accepts (T : Tx K mg a_is_whole a_is_within a_holder_ahead a_is_early a_is_break a_breaks a_find_chain a_is_entry a_mends a_are_never a_judge_chain a_law_cell a_law_numbers a_law_same a_law_draws a_law_says a_law_entries a_law_breaks a_law_holder a_law_due a_law_accepts a_law_papers a_law_chain_holds a_law d_is_whole d_is_within d_holder_ahead d_is_early d_is_break d_breaks d_find_chain d_is_entry d_mends d_are_never d_judge_chain d_law_cell d_law_numbers d_law_same d_law_draws d_law_says d_law_entries d_law_breaks d_law_holder d_law_due d_law_accepts d_law_papers d_law_chain_holds d_law) : FnOk P w K mg base CX0 2 a_law_accepts d_law_accepts ["first", "entries", "paper"] (spD false K sp_law_accepts) :=
  fnD T.F_law_accepts sc_law_accepts sp_law_accepts_len hf_law_accepts fun cdv A outer s H E hr => by
    have G_law_breaks := (ok_law_breaks (P := P) (w := w) (base := base) T).mono (show 1 ≤ 1 by decide)
    have G_law_holder := (ok_law_holder (P := P) (w := w) (base := base) T).mono (show 1 ≤ 1 by decide)
    exact ⟨_, (dss_cons (ds_set 3 sc_law_accepts.nd (de_call G_law_breaks hr T.g_law_breaks T.F_law_breaks.kp T.b_law_breaks (da_cons (de_var 0) (da_cons (de_var 1) da_nil))))
  (dss_cons (ds_if (dt_cmp (o_eq hr) d_eq ((de_blt c_len d_len T.m_len (dab_cons ((de_var 2)).toB dab_nil))).toB (de_int).toB (nomark _))
  (dss_cons (ds_if ((dw_or (dt_cmp (o_ne hr) d_ne ((de_ix x_seq d_ix ((de_var 2)).toB (de_int).toB)).toB (de_str).toB (nomark _)) (dw_or (dt_cmp o_lt d_lt ((de_ix x_seq d_ix ((de_var 2)).toB (de_int).toB)).toB (de_int).toB (nomark _)) (dw_or (dt_cmp o_gt d_gt ((de_ix x_seq d_ix ((de_var 2)).toB (de_int).toB)).toB ((de_blt c_len d_len T.m_len (dab_cons ((de_var 1)).toB dab_nil))).toB (nomark _)) (dw_or (dt_cmp o_lt d_lt ((de_blt (c_minA rfl) d_minA T.m_min (dab_cons ((de_ix x_seq d_ix ((de_var 2)).toB (de_int).toB)).toB dab_nil))).toB (de_int).toB (nomark _)) (dw_or1 (dt_cmp (o_eq hr) d_eq ((de_blt c_len d_len T.m_len (dab_cons ((de_var 3)).toB dab_nil))).toB (de_int).toB (nomark _)))))))).toT
  (dss_one (ds_ret de_bl))
  dss_nil)
  (dss_one (ds_ret (de_cmp (o_eq hr) d_eq ((de_blt c_len d_len T.m_len (dab_cons ((de_call G_law_breaks hr T.g_law_breaks T.F_law_breaks.kp T.b_law_breaks (da_cons (de_var 0) (da_cons (de_op o_add d_add ((de_op o_add d_add ((df_slice ((de_var 1)).toB (do_some de_int) (do_some (de_ix x_seq d_ix ((de_var 2)).toB (de_int).toB)))).toB ((df_lst (da_cons (de_ix x_seq d_ix ((de_var 2)).toB (de_int).toB) da_nil))).toB)).toB ((df_slice ((de_var 1)).toB (do_some (de_ix x_seq d_ix ((de_var 2)).toB (de_int).toB)) do_none)).toB) da_nil)))).toB dab_nil))).toB (de_int).toB (nomark _)))))
  dss_nil)
  (dss_cons (ds_if (dt_cmp (o_eq hr) d_eq ((de_ix x_seq d_ix ((de_var 2)).toB (de_int).toB)).toB (de_str).toB (nomark _))
  (dss_one (ds_ret (de_and (de_cmp (o_eq hr) d_eq ((de_blt c_len d_len T.m_len (dab_cons ((de_var 3)).toB dab_nil))).toB (de_int).toB (nomark _)) (de_one (de_cmp (o_eq hr) d_eq ((de_ix x_seq d_ix ((de_var 2)).toB (de_int).toB)).toB ((de_call G_law_holder hr T.g_law_holder T.F_law_holder.kp T.b_law_holder (da_cons (de_var 0) (da_cons (de_var 1) (da_cons (de_blt c_len d_len T.m_len (dab_cons ((de_var 1)).toB dab_nil)) da_nil))))).toB (nomark _))))))
  dss_nil)
  (dss_cons (ds_if ((dw_or (dt_cmp (o_ne hr) d_ne ((de_ix x_seq d_ix ((de_var 2)).toB (de_int).toB)).toB (de_str).toB (nomark _)) (dw_or1 (dt_cmp (o_ne hr) d_ne ((de_ix x_seq d_ix ((de_var 2)).toB (de_int).toB)).toB ((df_lc rfl sc_law_accepts.nd (di_list (de_var 3)) (blk_ok ["first", "entries", "paper", "broken", "k"] (defScope s_law_accepts) (by decide +kernel)) (fun _ _ _ _ _ => (dg_name 4 sc_law_accepts.nd)) (fun _ _ _ _ _ => (dts_one (dt_cmp (o_in hr) d_in ((de_var 4)).toB ((de_ix x_seq d_ix ((de_var 2)).toB (de_int).toB)).toB (by with_unfolding_all rfl)))) (fun _ _ _ _ _ => (de_var 4)) (own := [("k", 4)]))).toB (nomark _))))).toT
  (dss_one (ds_ret de_bl))
  dss_nil)
  (dss_cons (ds_if (dt_cmp (o_ne hr) d_ne ((de_blt c_len d_len T.m_len (dab_cons ((de_ix x_seq d_ix ((de_var 2)).toB (de_int).toB)).toB dab_nil))).toB (de_int).toB (nomark _))
  (dss_one (ds_ret (de_cmp o_gt d_gt ((de_blt c_len d_len T.m_len (dab_cons ((de_ix x_seq d_ix ((de_var 2)).toB (de_int).toB)).toB dab_nil))).toB (de_int).toB (nomark _))))
  dss_nil)
  (dss_cons (ds_set 4 sc_law_accepts.nd (de_ix x_seq d_ix ((de_ix x_seq d_ix ((de_var 2)).toB (de_int).toB)).toB (de_int).toB))
  (dss_one (ds_ret (de_and (de_cmp o_gt d_gt ((de_var 4)).toB (de_int).toB (nomark _)) (de_one (de_cmp o_lt d_lt ((de_ix x_seq d_ix ((de_ix x_seq d_ix ((de_var 1)).toB ((de_var 4)).toB)).toB (de_int).toB)).toB ((de_ix x_seq d_ix ((de_ix x_seq d_ix ((de_var 1)).toB ((de_op o_sub d_sub ((de_var 4)).toB (de_int).toB)).toB)).toB (de_int).toB)).toB (nomark _))))))))))))⟩
theorem ok_law_papers (T : Tx K mg a_is_whole a_is_within a_holder_ahead a_is_early a_is_break a_breaks a_find_chain a_is_entry a_mends a_are_never a_judge_chain a_law_cell a_law_numbers a_law_same a_law_draws a_law_says a_law_entries a_law_breaks a_law_holder a_law_due a_law_accepts a_law_papers a_law_chain_holds a_law d_is_whole d_is_within d_holder_ahead d_is_early d_is_break d_breaks d_find_chain d_is_entry d_mends d_are_never d_judge_chain d_law_cell d_law_numbers d_law_same d_law_draws d_law_says d_law_entries d_law_breaks d_law_holder d_law_due d_law_accepts d_law_papers d_law_chain_holds d_law) : FnOk P w K mg base CX0 2 a_law_papers d_law_papers ["first", "entries", "due", "draws"] (spD false K sp_law_papers) :=
  fnD T.F_law_papers sc_law_papers sp_law_papers_len hf_law_papers fun cdv A outer s H E hr => by
    have G_law_breaks := (ok_law_breaks (P := P) (w := w) (base := base) T).mono (show 1 ≤ 1 by decide)
    have G_law_holder := (ok_law_holder (P := P) (w := w) (base := base) T).mono (show 1 ≤ 1 by decide)
    exact ⟨_, (dss_cons (ds_set 4 sc_law_papers.nd (de_blt c_len d_len T.m_len (dab_cons ((de_var 1)).toB dab_nil)))
  (dss_cons (ds_set 5 sc_law_papers.nd (de_call G_law_breaks hr T.g_law_breaks T.F_law_breaks.kp T.b_law_breaks (da_cons (de_var 0) (da_cons (de_var 1) da_nil))))
  (dss_cons (ds_set 6 sc_law_papers.nd (de_call G_law_holder hr T.g_law_holder T.F_law_holder.kp T.b_law_holder (da_cons (de_var 0) (da_cons (de_var 1) (da_cons (de_var 4) da_nil)))))
  (dss_cons (ds_own 7 sc_law_papers.nd (df_lst (da_cons (de_var 2) (da_cons (de_tup (da_cons de_str (da_cons (de_var 6) da_nil))) (da_cons (de_tup (da_cons de_str (da_cons (de_var 0) da_nil))) (da_cons (de_tup (da_cons de_str (da_cons (de_var 5) da_nil))) (da_cons (de_tup (da_cons de_str (da_cons ((df_slice ((de_var 5)).toB (do_some de_int) (do_some de_int))).toE da_nil))) (da_cons (de_tup (da_cons de_str (da_cons ((df_slice ((de_var 5)).toB (do_some de_int) do_none)).toE da_nil))) (da_cons (de_tup (da_cons de_str (da_cons ((df_rev ((de_var 5)).toB)).toE da_nil))) (da_cons (de_tup (da_cons de_str (da_cons (de_op o_add d_add ((de_var 5)).toB ((df_lst (da_cons (de_var 4) da_nil))).toB) da_nil))) (da_cons (de_tup (da_cons de_str (da_cons (de_op o_add d_add ((df_lst (da_cons (de_neg de_int) da_nil))).toB ((de_var 5)).toB) da_nil))) da_nil)))))))))))
  (dss_cons (ds_own 7 sc_law_papers.nd (df_op o_cat f_cat (db_var 7) ((df_lst (da_cons (de_tup (da_cons de_str (da_cons ((df_listRg1 rfl T.m_list T.m_range (de_var 4))).toE da_nil))) (da_cons (de_tup (da_cons de_str (da_cons ((df_lst (da_cons (de_op o_sub d_sub ((de_var 4)).toB (de_int).toB) da_nil))).toE da_nil))) (da_cons (de_tup (da_cons de_str (da_cons (de_var 5) da_nil))) (da_cons (de_tup (da_cons de_str (da_cons (de_var 4) (da_cons (de_tup (da_cons (de_op o_pow d_pow (de_int).toB (de_int).toB) (da_cons (de_var 6) (da_cons (de_var 6) da_nil)))) da_nil)))) da_nil)))))).toB))
  (dss_cons (ds_for PassesOwn.never rfl (di_list (de_op o_add d_add ((de_var 5)).toB ((df_lst (da_cons (de_op o_mod d_mod ((de_ix x_seq d_ix ((de_var 3)).toB (de_int).toB)).toB ((de_var 4)).toB) (da_cons (de_var 4) da_nil)))).toB)) (dg_name 8 sc_law_papers.nd)
  (dss_cons (ds_set 9 sc_law_papers.nd (de_call G_law_holder hr T.g_law_holder T.F_law_holder.kp T.b_law_holder (da_cons (de_var 0) (da_cons (de_var 1) (da_cons (de_var 8) da_nil)))))
  (dss_cons (ds_set 10 sc_law_papers.nd (de_ix x_seq d_ix ((de_op o_add d_add ((df_lc rfl sc_law_papers.nd (di_list (de_var 1)) (blk_ok ["first", "entries", "due", "draws", "count", "broken", "last", "found", "k", "holder", "day", "giver", "at", "entry"] (defScope s_law_papers) (by decide +kernel)) (fun _ _ _ _ _ => (dg_name 13 sc_law_papers.nd)) (fun _ _ _ _ _ => dts_nil) (fun _ _ _ _ _ => (de_ix x_seq d_ix ((de_var 13)).toB (de_int).toB)) (own := [("entry", 13)]))).toB ((df_lst (da_cons (de_op o_pow d_pow (de_int).toB (de_int).toB) da_nil))).toB)).toB ((de_var 8)).toB))
  (dss_cons (ds_set 11 sc_law_papers.nd (de_ix x_seq d_ix ((de_op o_add d_add ((df_lc rfl sc_law_papers.nd (di_list (de_var 1)) (blk_ok ["first", "entries", "due", "draws", "count", "broken", "last", "found", "k", "holder", "day", "giver", "at", "entry"] (defScope s_law_papers) (by decide +kernel)) (fun _ _ _ _ _ => (dg_name 13 sc_law_papers.nd)) (fun _ _ _ _ _ => dts_nil) (fun _ _ _ _ _ => (de_ix x_seq d_ix ((de_var 13)).toB (de_int).toB)) (own := [("entry", 13)]))).toB ((df_lst (da_cons (de_var 6) da_nil))).toB)).toB ((de_var 8)).toB))
  (dss_one (ds_for PassesOwn.never rfl (di_list ((df_lst (da_cons (de_var 8) (da_cons (de_op o_sub d_sub ((de_var 8)).toB (de_int).toB) (da_cons (de_op o_add d_add ((de_var 8)).toB (de_int).toB) da_nil))))).toE) (dg_name 12 sc_law_papers.nd)
  (dss_one (ds_for PassesOwn.never rfl (di_list ((df_lst (da_cons (de_tup (da_cons (de_var 10) (da_cons (de_var 9) (da_cons (de_var 11) da_nil)))) (da_cons (de_tup (da_cons (de_op o_add d_add ((de_var 10)).toB (de_int).toB) (da_cons (de_var 9) (da_cons (de_var 11) da_nil)))) (da_cons (de_tup (da_cons (de_op o_sub d_sub ((de_var 10)).toB (de_int).toB) (da_cons (de_var 9) (da_cons (de_var 11) da_nil)))) (da_cons (de_tup (da_cons de_int (da_cons (de_var 9) (da_cons (de_var 11) da_nil)))) (da_cons (de_tup (da_cons (de_neg de_int) (da_cons (de_var 9) (da_cons (de_var 11) da_nil)))) (da_cons (de_tup (da_cons (de_var 10) (da_cons (de_var 11) (da_cons (de_var 9) da_nil)))) (da_cons (de_tup (da_cons (de_var 10) (da_cons (de_var 9) (da_cons (de_op o_add d_add ((de_var 11)).toB (de_int).toB) da_nil)))) da_nil))))))))).toE) (dg_name 13 sc_law_papers.nd)
  (dss_one (ds_app 7 (de_tup (da_cons de_str (da_cons (de_var 12) (da_cons (de_var 13) da_nil))))))))))))))
  (dss_one (ds_retV 7))))))))⟩
theorem ok_law_chain_holds (T : Tx K mg a_is_whole a_is_within a_holder_ahead a_is_early a_is_break a_breaks a_find_chain a_is_entry a_mends a_are_never a_judge_chain a_law_cell a_law_numbers a_law_same a_law_draws a_law_says a_law_entries a_law_breaks a_law_holder a_law_due a_law_accepts a_law_papers a_law_chain_holds a_law d_is_whole d_is_within d_holder_ahead d_is_early d_is_break d_breaks d_find_chain d_is_entry d_mends d_are_never d_judge_chain d_law_cell d_law_numbers d_law_same d_law_draws d_law_says d_law_entries d_law_breaks d_law_holder d_law_due d_law_accepts d_law_papers d_law_chain_holds d_law) : FnOk P w K mg base CX0 10 a_law_chain_holds d_law_chain_holds ["first", "entries", "draws"] (spD false K sp_law_chain_holds) :=
  fnD T.F_law_chain_holds sc_law_chain_holds sp_law_chain_holds_len hf_law_chain_holds fun cdv A outer s H E hr => by
    have G_law_accepts := (ok_law_accepts (P := P) (w := w) (base := base) T).mono (show 2 ≤ 9 by decide)
    have G_law_breaks := (ok_law_breaks (P := P) (w := w) (base := base) T).mono (show 1 ≤ 9 by decide)
    have G_law_due := (ok_law_due (P := P) (w := w) (base := base) T).mono (show 2 ≤ 9 by decide)
    have G_law_papers := (ok_law_papers (P := P) (w := w) (base := base) T).mono (show 2 ≤ 9 by decide)
    have G_law_same := (ok_law_same (P := P) (w := w) (base := base) T).mono (show 9 ≤ 9 by decide)
    have G_law_says := (ok_law_says (P := P) (w := w) (base := base) T).mono (show 1 ≤ 9 by decide)
    have G_breaks := (ok_breaks (P := P) (w := w) (base := base) T).mono (show 3 ≤ 9 by decide)
    have G_find_chain := (ok_find_chain (P := P) (w := w) (base := base) T).mono (show 4 ≤ 9 by decide)
    have G_judge_chain := (ok_judge_chain (P := P) (w := w) (base := base) T).mono (show 5 ≤ 9 by decide)
    exact ⟨_, (dss_cons (ds_set 3 sc_law_chain_holds.nd ((df_ty c_list f_list T.m_list (dab_cons ((de_var 1)).toB dab_nil))).toE)
  (dss_cons (ds_set 4 sc_law_chain_holds.nd (de_call G_law_due hr T.g_law_due T.F_law_due.kp T.b_law_due (da_cons (de_var 0) (da_cons (de_var 1) da_nil))))
  (dss_cons (ds_if ((dw_or (dt_not (dt_tru ((de_call G_law_same hr T.g_law_same T.F_law_same.kp T.b_law_same (da_cons (de_call G_breaks hr T.g_breaks T.F_breaks.kp T.b_breaks (da_cons (de_var 0) (da_cons (de_var 3) da_nil))) (da_cons (de_call G_law_breaks hr T.g_law_breaks T.F_law_breaks.kp T.b_law_breaks (da_cons (de_var 0) (da_cons (de_var 1) da_nil))) da_nil)))).toB)) (dw_or (dt_not (dt_tru ((de_call G_law_same hr T.g_law_same T.F_law_same.kp T.b_law_same (da_cons (de_call G_find_chain hr T.g_find_chain T.F_find_chain.kp T.b_find_chain (da_cons (de_var 0) (da_cons (de_var 3) da_nil))) (da_cons (de_var 4) da_nil)))).toB)) (dw_or1 (dt_cmp (o_ne hr) d_ne ((de_var 3)).toB ((de_var 1)).toB (nomark _)))))).toT
  (dss_one (ds_ret de_bl))
  dss_nil)
  (dss_cons (ds_for PassesOwn.never rfl (di_list (de_call G_law_papers hr T.g_law_papers T.F_law_papers.kp T.b_law_papers (da_cons (de_var 0) (da_cons (de_var 1) (da_cons (de_var 4) (da_cons (de_var 2) da_nil)))))) (dg_name 5 sc_law_chain_holds.nd)
  (dss_cons (ds_set 6 sc_law_chain_holds.nd (de_call G_judge_chain hr T.g_judge_chain T.F_judge_chain.kp T.b_judge_chain (da_cons (de_var 0) (da_cons (de_var 3) (da_cons (de_var 5) da_nil)))))
  (dss_one (ds_if ((dw_or (dt_not (dt_tru ((de_call G_law_says hr T.g_law_says T.F_law_says.kp T.b_law_says (da_cons (de_var 6) (da_cons (de_call G_law_accepts hr T.g_law_accepts T.F_law_accepts.kp T.b_law_accepts (da_cons (de_var 0) (da_cons (de_var 1) (da_cons (de_var 5) da_nil)))) da_nil)))).toB)) (dw_or1 ((dw_and (dt_tru ((de_var 6)).toB) (dw_and1 (dt_cmp (o_ne hr) d_ne ((de_ix x_seq d_ix ((de_var 5)).toB (de_int).toB)).toB ((de_ix x_seq d_ix ((de_var 4)).toB (de_int).toB)).toB (nomark _))))).toT))).toT
  (dss_one (ds_ret de_bl))
  dss_nil))))
  (dss_one (ds_ret (de_cmp (o_eq hr) d_eq ((de_var 3)).toB ((de_var 1)).toB (nomark _))))))))⟩
theorem ok_law (T : Tx K mg a_is_whole a_is_within a_holder_ahead a_is_early a_is_break a_breaks a_find_chain a_is_entry a_mends a_are_never a_judge_chain a_law_cell a_law_numbers a_law_same a_law_draws a_law_says a_law_entries a_law_breaks a_law_holder a_law_due a_law_accepts a_law_papers a_law_chain_holds a_law d_is_whole d_is_within d_holder_ahead d_is_early d_is_break d_breaks d_find_chain d_is_entry d_mends d_are_never d_judge_chain d_law_cell d_law_numbers d_law_same d_law_draws d_law_says d_law_entries d_law_breaks d_law_holder d_law_due d_law_accepts d_law_papers d_law_chain_holds d_law) : FnOk P w K mg base CX0 11 a_law d_law ["script"] (spD false K sp_law) :=
  fnD T.F_law sc_law sp_law_len hf_law fun cdv A outer s H E hr => by
    have G_law_chain_holds := (ok_law_chain_holds (P := P) (w := w) (base := base) T).mono (show 10 ≤ 10 by decide)
    have G_law_draws := (ok_law_draws (P := P) (w := w) (base := base) T).mono (show 2 ≤ 10 by decide)
    have G_law_entries := (ok_law_entries (P := P) (w := w) (base := base) T).mono (show 3 ≤ 10 by decide)
    exact ⟨_, (dss_cons (ds_set 1 sc_law.nd (de_call G_law_draws hr T.g_law_draws T.F_law_draws.kp T.b_law_draws (da_cons (de_var 0) (da_cons de_int (da_cons de_int da_nil)))))
  (dss_cons (ds_asg (de_call G_law_entries hr T.g_law_entries T.F_law_entries.kp T.b_law_entries (da_cons (de_var 0) (da_cons (de_var 1) da_nil))) (dg_tup rfl (dgs_cons (dg_name 2 sc_law.nd) (dgs_cons (dg_name 3 sc_law.nd) (dgs_cons (dg_name 4 sc_law.nd) dgs_nil)))))
  (dss_cons (ds_set 5 sc_law.nd (de_blt c_len d_len T.m_len (dab_cons ((de_var 3)).toB dab_nil)))
  (dss_cons (ds_if (dt_not (dt_tru ((de_call G_law_chain_holds hr T.g_law_chain_holds T.F_law_chain_holds.kp T.b_law_chain_holds (da_cons (de_var 2) (da_cons (de_var 3) (da_cons ((df_slice ((de_var 1)).toB (do_some de_int) (do_some de_int))).toE da_nil))))).toB))
  (dss_one (ds_ret de_bl))
  dss_nil)
  (dss_cons (ds_for PassesOwn.never rfl (di_range1 T.m_range (da_cons de_int da_nil)) (dg_name 6 sc_law.nd)
  (dss_cons (ds_own 7 sc_law.nd (df_ty c_list f_list T.m_list (dab_cons ((de_var 3)).toB dab_nil)))
  (dss_cons (ds_for PassesOwn.never rfl (di_list ((df_slice ((df_lst (da_cons (de_op o_add d_add (de_int).toB ((de_op o_mod d_mod ((de_ix x_seq d_ix ((de_var 1)).toB ((de_op o_add d_add (de_int).toB ((de_var 6)).toB)).toB)).toB ((de_op o_sub d_sub ((de_var 5)).toB (de_int).toB)).toB)).toB) (da_cons (de_op o_mod d_mod ((de_ix x_seq d_ix ((de_var 1)).toB ((de_op o_add d_add (de_int).toB ((de_var 6)).toB)).toB)).toB ((de_var 5)).toB) da_nil)))).toB (do_some de_int) (do_some (de_op o_add d_add (de_int).toB ((de_ty c_int d_int T.m_int (dab_cons ((de_cmp (o_eq hr) d_eq ((de_var 6)).toB (de_int).toB (nomark _))).toB dab_nil))).toB)))).toE) (dg_name 8 sc_law.nd)
  (dss_cons (ds_asg (de_ix x_seq d_ix (db_var 7) ((de_var 8)).toB) (dg_tup rfl (dgs_cons (dg_name 9 sc_law.nd) (dgs_cons (dg_name 10 sc_law.nd) (dgs_cons (dg_name 11 sc_law.nd) dgs_nil)))))
  (dss_cons (ds_if (dt_cmp (o_ne hr) d_ne ((de_var 6)).toB (de_int).toB (nomark _))
  (dss_one (ds_set 10 sc_law.nd (de_ix x_seq d_ix ((de_var 4)).toB ((de_op o_mod d_mod ((de_ty c_int d_int T.m_int (dab_cons ((de_op o_add d_add ((de_op o_add d_add ((de_index hr ((de_var 4)).toB ((de_var 10)).toB)).toB (de_int).toB)).toB ((de_op o_mod d_mod ((de_ix x_seq d_ix ((de_var 1)).toB ((de_op o_add d_add (de_int).toB ((de_var 6)).toB)).toB)).toB (de_int).toB)).toB)).toB dab_nil))).toB (de_int).toB)).toB)))
  dss_nil)
  (dss_cons (ds_if ((dw_or (dt_cmp (o_eq hr) d_eq ((de_var 6)).toB (de_int).toB (nomark _)) (dw_or1 (dt_cmp (o_eq hr) d_eq ((de_var 6)).toB (de_int).toB (nomark _))))).toT
  (dss_one (ds_set 9 sc_law.nd (de_blt (c_max2 rfl) d_2I T.m_max (dab_cons (de_int).toB (dab_cons ((de_op o_sub d_sub ((de_ix x_seq d_ix ((df_lcB rfl sc_law.nd (dib_list (db_var 7)) (blk_ok ["script", "draws", "first", "entries", "persons", "count", "kind", "bent", "at", "day", "giver", "taker", "entry"] (defScope s_law) (by decide +kernel)) (fun _ _ _ _ _ => (dg_name 12 sc_law.nd)) (fun _ _ _ _ _ => dts_nil) (fun _ _ _ _ _ => (de_ix x_seq d_ix ((de_var 12)).toB (de_int).toB)) (own := [("entry", 12)]))).toB ((de_op o_sub d_sub ((de_var 8)).toB (de_int).toB)).toB)).toB (de_int).toB)).toB dab_nil)))))
  dss_nil)
  (dss_one (ds_put 7 (de_tup (da_cons (de_var 9) (da_cons (de_var 10) (da_cons (de_var 11) da_nil)))) (de_var 8)))))))
  (ds_frz 7 (dss_one (ds_if (dt_not (dt_tru ((de_call G_law_chain_holds hr T.g_law_chain_holds T.F_law_chain_holds.kp T.b_law_chain_holds (da_cons (de_var 2) (da_cons (de_var 7) (da_cons ((df_slice ((de_var 1)).toB (do_some de_int) (do_some de_int))).toE da_nil))))).toB))
  (dss_one (ds_ret de_bl))
  dss_nil))))))
  (dss_one (ds_ret de_bl)))))))⟩
end
theorem all_mk {l : PySem.W.OpenLaw} {w : World} {K : PySem.W.Frag} {h : Heap} {mg : Str → Option Value} {fa f0 f1 f2 f3 f4 f5 f6 f7 f8 f9 f10 f11 f12 f13 f14 f15 f16 f17 f18 f19 f20 f21 f22 f23 : Addr} (X : K.In h) (G : h.Ns mainGlobals mg) (hfa : mg "law" = some (.ref fa))
    {od0 an0 : Option Addr} {sl0 : Array (Option Value)} {oc0 kV0 dc0 pm0 cd0 ct0 : Value} {od1 an1 : Option Addr} {sl1 : Array (Option Value)} {oc1 kV1 dc1 pm1 cd1 ct1 : Value} {od2 an2 : Option Addr} {sl2 : Array (Option Value)} {oc2 kV2 dc2 pm2 cd2 ct2 : Value} {od3 an3 : Option Addr} {sl3 : Array (Option Value)} {oc3 kV3 dc3 pm3 cd3 ct3 : Value} {od4 an4 : Option Addr} {sl4 : Array (Option Value)} {oc4 kV4 dc4 pm4 cd4 ct4 : Value} {od5 an5 : Option Addr} {sl5 : Array (Option Value)} {oc5 kV5 dc5 pm5 cd5 ct5 : Value} {od6 an6 : Option Addr} {sl6 : Array (Option Value)} {oc6 kV6 dc6 pm6 cd6 ct6 : Value} {od7 an7 : Option Addr} {sl7 : Array (Option Value)} {oc7 kV7 dc7 pm7 cd7 ct7 : Value} {od8 an8 : Option Addr} {sl8 : Array (Option Value)} {oc8 kV8 dc8 pm8 cd8 ct8 : Value} {od9 an9 : Option Addr} {sl9 : Array (Option Value)} {oc9 kV9 dc9 pm9 cd9 ct9 : Value} {od10 an10 : Option Addr} {sl10 : Array (Option Value)} {oc10 kV10 dc10 pm10 cd10 ct10 : Value} {od11 an11 : Option Addr} {sl11 : Array (Option Value)} {oc11 kV11 dc11 pm11 cd11 ct11 : Value} {od12 an12 : Option Addr} {sl12 : Array (Option Value)} {oc12 kV12 dc12 pm12 cd12 ct12 : Value} {od13 an13 : Option Addr} {sl13 : Array (Option Value)} {oc13 kV13 dc13 pm13 cd13 ct13 : Value} {od14 an14 : Option Addr} {sl14 : Array (Option Value)} {oc14 kV14 dc14 pm14 cd14 ct14 : Value} {od15 an15 : Option Addr} {sl15 : Array (Option Value)} {oc15 kV15 dc15 pm15 cd15 ct15 : Value} {od16 an16 : Option Addr} {sl16 : Array (Option Value)} {oc16 kV16 dc16 pm16 cd16 ct16 : Value} {od17 an17 : Option Addr} {sl17 : Array (Option Value)} {oc17 kV17 dc17 pm17 cd17 ct17 : Value} {od18 an18 : Option Addr} {sl18 : Array (Option Value)} {oc18 kV18 dc18 pm18 cd18 ct18 : Value} {od19 an19 : Option Addr} {sl19 : Array (Option Value)} {oc19 kV19 dc19 pm19 cd19 ct19 : Value} {od20 an20 : Option Addr} {sl20 : Array (Option Value)} {oc20 kV20 dc20 pm20 cd20 ct20 : Value} {od21 an21 : Option Addr} {sl21 : Array (Option Value)} {oc21 kV21 dc21 pm21 cd21 ct21 : Value} {od22 an22 : Option Addr} {sl22 : Array (Option Value)} {oc22 kV22 dc22 pm22 cd22 ct22 : Value} {od23 an23 : Option Addr} {sl23 : Array (Option Value)} {oc23 kV23 dc23 pm23 cd23 ct23 : Value}
    (a0 : PySem.W.nsIn K mainGlobals "is_whole" = some (some (.ref f0))) (l0 : K.lookup f0 = some ⟨oc0, od0, .func (PySem.W.fnOf "is_whole" "is_whole" (defArgs s_is_whole) (defBody s_is_whole) (defScope s_is_whole) .none kV0 dc0 pm0 an0 cd0 ct0), sl0⟩) (c0 : PySem.W.codeIn K cd0 "is_whole" = true) (k0 : PySem.W.keepIn K (.ref f0) = true)
    (a1 : PySem.W.nsIn K mainGlobals "is_within" = some (some (.ref f1))) (l1 : K.lookup f1 = some ⟨oc1, od1, .func (PySem.W.fnOf "is_within" "is_within" (defArgs s_is_within) (defBody s_is_within) (defScope s_is_within) .none kV1 dc1 pm1 an1 cd1 ct1), sl1⟩) (c1 : PySem.W.codeIn K cd1 "is_within" = true) (k1 : PySem.W.keepIn K (.ref f1) = true)
    (a2 : PySem.W.nsIn K mainGlobals "holder_ahead" = some (some (.ref f2))) (l2 : K.lookup f2 = some ⟨oc2, od2, .func (PySem.W.fnOf "holder_ahead" "holder_ahead" (defArgs s_holder_ahead) (defBody s_holder_ahead) (defScope s_holder_ahead) .none kV2 dc2 pm2 an2 cd2 ct2), sl2⟩) (c2 : PySem.W.codeIn K cd2 "holder_ahead" = true) (k2 : PySem.W.keepIn K (.ref f2) = true)
    (a3 : PySem.W.nsIn K mainGlobals "is_early" = some (some (.ref f3))) (l3 : K.lookup f3 = some ⟨oc3, od3, .func (PySem.W.fnOf "is_early" "is_early" (defArgs s_is_early) (defBody s_is_early) (defScope s_is_early) .none kV3 dc3 pm3 an3 cd3 ct3), sl3⟩) (c3 : PySem.W.codeIn K cd3 "is_early" = true) (k3 : PySem.W.keepIn K (.ref f3) = true)
    (a4 : PySem.W.nsIn K mainGlobals "is_break" = some (some (.ref f4))) (l4 : K.lookup f4 = some ⟨oc4, od4, .func (PySem.W.fnOf "is_break" "is_break" (defArgs s_is_break) (defBody s_is_break) (defScope s_is_break) .none kV4 dc4 pm4 an4 cd4 ct4), sl4⟩) (c4 : PySem.W.codeIn K cd4 "is_break" = true) (k4 : PySem.W.keepIn K (.ref f4) = true)
    (a5 : PySem.W.nsIn K mainGlobals "breaks" = some (some (.ref f5))) (l5 : K.lookup f5 = some ⟨oc5, od5, .func (PySem.W.fnOf "breaks" "breaks" (defArgs s_breaks) (defBody s_breaks) (defScope s_breaks) .none kV5 dc5 pm5 an5 cd5 ct5), sl5⟩) (c5 : PySem.W.codeIn K cd5 "breaks" = true) (k5 : PySem.W.keepIn K (.ref f5) = true)
    (a6 : PySem.W.nsIn K mainGlobals "find_chain" = some (some (.ref f6))) (l6 : K.lookup f6 = some ⟨oc6, od6, .func (PySem.W.fnOf "find_chain" "find_chain" (defArgs s_find_chain) (defBody s_find_chain) (defScope s_find_chain) .none kV6 dc6 pm6 an6 cd6 ct6), sl6⟩) (c6 : PySem.W.codeIn K cd6 "find_chain" = true) (k6 : PySem.W.keepIn K (.ref f6) = true)
    (a7 : PySem.W.nsIn K mainGlobals "is_entry" = some (some (.ref f7))) (l7 : K.lookup f7 = some ⟨oc7, od7, .func (PySem.W.fnOf "is_entry" "is_entry" (defArgs s_is_entry) (defBody s_is_entry) (defScope s_is_entry) .none kV7 dc7 pm7 an7 cd7 ct7), sl7⟩) (c7 : PySem.W.codeIn K cd7 "is_entry" = true) (k7 : PySem.W.keepIn K (.ref f7) = true)
    (a8 : PySem.W.nsIn K mainGlobals "mends" = some (some (.ref f8))) (l8 : K.lookup f8 = some ⟨oc8, od8, .func (PySem.W.fnOf "mends" "mends" (defArgs s_mends) (defBody s_mends) (defScope s_mends) .none kV8 dc8 pm8 an8 cd8 ct8), sl8⟩) (c8 : PySem.W.codeIn K cd8 "mends" = true) (k8 : PySem.W.keepIn K (.ref f8) = true)
    (a9 : PySem.W.nsIn K mainGlobals "are_never" = some (some (.ref f9))) (l9 : K.lookup f9 = some ⟨oc9, od9, .func (PySem.W.fnOf "are_never" "are_never" (defArgs s_are_never) (defBody s_are_never) (defScope s_are_never) .none kV9 dc9 pm9 an9 cd9 ct9), sl9⟩) (c9 : PySem.W.codeIn K cd9 "are_never" = true) (k9 : PySem.W.keepIn K (.ref f9) = true)
    (a10 : PySem.W.nsIn K mainGlobals "judge_chain" = some (some (.ref f10))) (l10 : K.lookup f10 = some ⟨oc10, od10, .func (PySem.W.fnOf "judge_chain" "judge_chain" (defArgs s_judge_chain) (defBody s_judge_chain) (defScope s_judge_chain) .none kV10 dc10 pm10 an10 cd10 ct10), sl10⟩) (c10 : PySem.W.codeIn K cd10 "judge_chain" = true) (k10 : PySem.W.keepIn K (.ref f10) = true)
    (a11 : PySem.W.nsIn K mainGlobals "_law_cell" = some (some (.ref f11))) (l11 : K.lookup f11 = some ⟨oc11, od11, .func (PySem.W.fnOf "_law_cell" "_law_cell" (defArgs s_law_cell) (defBody s_law_cell) (defScope s_law_cell) .none kV11 dc11 pm11 an11 cd11 ct11), sl11⟩) (c11 : PySem.W.codeIn K cd11 "_law_cell" = true) (k11 : PySem.W.keepIn K (.ref f11) = true)
    (a12 : PySem.W.nsIn K mainGlobals "_law_numbers" = some (some (.ref f12))) (l12 : K.lookup f12 = some ⟨oc12, od12, .func (PySem.W.fnOf "_law_numbers" "_law_numbers" (defArgs s_law_numbers) (defBody s_law_numbers) (defScope s_law_numbers) .none kV12 dc12 pm12 an12 cd12 ct12), sl12⟩) (c12 : PySem.W.codeIn K cd12 "_law_numbers" = true) (k12 : PySem.W.keepIn K (.ref f12) = true)
    (a13 : PySem.W.nsIn K mainGlobals "_law_same" = some (some (.ref f13))) (l13 : K.lookup f13 = some ⟨oc13, od13, .func (PySem.W.fnOf "_law_same" "_law_same" (defArgs s_law_same) (defBody s_law_same) (defScope s_law_same) .none kV13 dc13 pm13 an13 cd13 ct13), sl13⟩) (c13 : PySem.W.codeIn K cd13 "_law_same" = true) (k13 : PySem.W.keepIn K (.ref f13) = true)
    (a14 : PySem.W.nsIn K mainGlobals "_law_draws" = some (some (.ref f14))) (l14 : K.lookup f14 = some ⟨oc14, od14, .func (PySem.W.fnOf "_law_draws" "_law_draws" (defArgs s_law_draws) (defBody s_law_draws) (defScope s_law_draws) .none kV14 dc14 pm14 an14 cd14 ct14), sl14⟩) (c14 : PySem.W.codeIn K cd14 "_law_draws" = true) (k14 : PySem.W.keepIn K (.ref f14) = true)
    (a15 : PySem.W.nsIn K mainGlobals "_law_says" = some (some (.ref f15))) (l15 : K.lookup f15 = some ⟨oc15, od15, .func (PySem.W.fnOf "_law_says" "_law_says" (defArgs s_law_says) (defBody s_law_says) (defScope s_law_says) .none kV15 dc15 pm15 an15 cd15 ct15), sl15⟩) (c15 : PySem.W.codeIn K cd15 "_law_says" = true) (k15 : PySem.W.keepIn K (.ref f15) = true)
    (a16 : PySem.W.nsIn K mainGlobals "_law_entries" = some (some (.ref f16))) (l16 : K.lookup f16 = some ⟨oc16, od16, .func (PySem.W.fnOf "_law_entries" "_law_entries" (defArgs s_law_entries) (defBody s_law_entries) (defScope s_law_entries) .none kV16 dc16 pm16 an16 cd16 ct16), sl16⟩) (c16 : PySem.W.codeIn K cd16 "_law_entries" = true) (k16 : PySem.W.keepIn K (.ref f16) = true)
    (a17 : PySem.W.nsIn K mainGlobals "_law_breaks" = some (some (.ref f17))) (l17 : K.lookup f17 = some ⟨oc17, od17, .func (PySem.W.fnOf "_law_breaks" "_law_breaks" (defArgs s_law_breaks) (defBody s_law_breaks) (defScope s_law_breaks) .none kV17 dc17 pm17 an17 cd17 ct17), sl17⟩) (c17 : PySem.W.codeIn K cd17 "_law_breaks" = true) (k17 : PySem.W.keepIn K (.ref f17) = true)
    (a18 : PySem.W.nsIn K mainGlobals "_law_holder" = some (some (.ref f18))) (l18 : K.lookup f18 = some ⟨oc18, od18, .func (PySem.W.fnOf "_law_holder" "_law_holder" (defArgs s_law_holder) (defBody s_law_holder) (defScope s_law_holder) .none kV18 dc18 pm18 an18 cd18 ct18), sl18⟩) (c18 : PySem.W.codeIn K cd18 "_law_holder" = true) (k18 : PySem.W.keepIn K (.ref f18) = true)
    (a19 : PySem.W.nsIn K mainGlobals "_law_due" = some (some (.ref f19))) (l19 : K.lookup f19 = some ⟨oc19, od19, .func (PySem.W.fnOf "_law_due" "_law_due" (defArgs s_law_due) (defBody s_law_due) (defScope s_law_due) .none kV19 dc19 pm19 an19 cd19 ct19), sl19⟩) (c19 : PySem.W.codeIn K cd19 "_law_due" = true) (k19 : PySem.W.keepIn K (.ref f19) = true)
    (a20 : PySem.W.nsIn K mainGlobals "_law_accepts" = some (some (.ref f20))) (l20 : K.lookup f20 = some ⟨oc20, od20, .func (PySem.W.fnOf "_law_accepts" "_law_accepts" (defArgs s_law_accepts) (defBody s_law_accepts) (defScope s_law_accepts) .none kV20 dc20 pm20 an20 cd20 ct20), sl20⟩) (c20 : PySem.W.codeIn K cd20 "_law_accepts" = true) (k20 : PySem.W.keepIn K (.ref f20) = true)
    (a21 : PySem.W.nsIn K mainGlobals "_law_papers" = some (some (.ref f21))) (l21 : K.lookup f21 = some ⟨oc21, od21, .func (PySem.W.fnOf "_law_papers" "_law_papers" (defArgs s_law_papers) (defBody s_law_papers) (defScope s_law_papers) .none kV21 dc21 pm21 an21 cd21 ct21), sl21⟩) (c21 : PySem.W.codeIn K cd21 "_law_papers" = true) (k21 : PySem.W.keepIn K (.ref f21) = true)
    (a22 : PySem.W.nsIn K mainGlobals "_law_chain_holds" = some (some (.ref f22))) (l22 : K.lookup f22 = some ⟨oc22, od22, .func (PySem.W.fnOf "_law_chain_holds" "_law_chain_holds" (defArgs s_law_chain_holds) (defBody s_law_chain_holds) (defScope s_law_chain_holds) .none kV22 dc22 pm22 an22 cd22 ct22), sl22⟩) (c22 : PySem.W.codeIn K cd22 "_law_chain_holds" = true) (k22 : PySem.W.keepIn K (.ref f22) = true)
    (a23 : PySem.W.nsIn K mainGlobals "law" = some (some (.ref f23))) (l23 : K.lookup f23 = some ⟨oc23, od23, .func (PySem.W.fnOf "law" "law" (defArgs s_law) (defBody s_law) (defScope s_law) .none kV23 dc23 pm23 an23 cd23 ct23), sl23⟩) (c23 : PySem.W.codeIn K cd23 "law" = true) (k23 : PySem.W.keepIn K (.ref f23) = true)
    (z0 : PySem.W.nsIn K mainGlobals "all" = some none)
    (z1 : PySem.W.nsIn K mainGlobals "bool" = some none)
    (z2 : PySem.W.nsIn K mainGlobals "enumerate" = some none)
    (z3 : PySem.W.nsIn K mainGlobals "int" = some none)
    (z4 : PySem.W.nsIn K mainGlobals "isinstance" = some none)
    (z5 : PySem.W.nsIn K mainGlobals "len" = some none)
    (z6 : PySem.W.nsIn K mainGlobals "list" = some none)
    (z7 : PySem.W.nsIn K mainGlobals "max" = some none)
    (z8 : PySem.W.nsIn K mainGlobals "min" = some none)
    (z9 : PySem.W.nsIn K mainGlobals "range" = some none)
    (z10 : PySem.W.nsIn K mainGlobals "str" = some none)
    (z11 : PySem.W.nsIn K mainGlobals "tuple" = some none)
    : ∃ fd : FuncData, (∀ (s : Shared) (v : Value), BindsTo s fd ⟨[v], []⟩ [("script", v)]) ∧ ∀ base : Heap, K.In base → base.Ns mainGlobals mg → FnOk l.prog w K mg base CX0 11 fa fd ["script"] (spD false K sp_law) := by
  have e := hfa.symm.trans (PySem.W.mg_of X G a23)
  cases e
  have F0 := fun_mk (st := s_is_whole) l0 c0 k0
  have B0 := F0.binds (ps := ["value"]) fun _ _ _ _ _ _ us hl => match us, hl with | [_], _ => rfl
  have F1 := fun_mk (st := s_is_within) l1 c1 k1
  have B1 := F1.binds (ps := ["value", "low", "high"]) fun _ _ _ _ _ _ us hl => match us, hl with | [_, _, _], _ => rfl
  have F2 := fun_mk (st := s_holder_ahead) l2 c2 k2
  have B2 := F2.binds (ps := ["first", "entries", "k"]) fun _ _ _ _ _ _ us hl => match us, hl with | [_, _, _], _ => rfl
  have F3 := fun_mk (st := s_is_early) l3 c3 k3
  have B3 := F3.binds (ps := ["entries", "k"]) fun _ _ _ _ _ _ us hl => match us, hl with | [_, _], _ => rfl
  have F4 := fun_mk (st := s_is_break) l4 c4 k4
  have B4 := F4.binds (ps := ["first", "entries", "k"]) fun _ _ _ _ _ _ us hl => match us, hl with | [_, _, _], _ => rfl
  have F5 := fun_mk (st := s_breaks) l5 c5 k5
  have B5 := F5.binds (ps := ["first", "entries"]) fun _ _ _ _ _ _ us hl => match us, hl with | [_, _], _ => rfl
  have F6 := fun_mk (st := s_find_chain) l6 c6 k6
  have B6 := F6.binds (ps := ["first", "entries"]) fun _ _ _ _ _ _ us hl => match us, hl with | [_, _], _ => rfl
  have F7 := fun_mk (st := s_is_entry) l7 c7 k7
  have B7 := F7.binds (ps := ["entry"]) fun _ _ _ _ _ _ us hl => match us, hl with | [_], _ => rfl
  have F8 := fun_mk (st := s_mends) l8 c8 k8
  have B8 := F8.binds (ps := ["first", "entries", "k", "entry"]) fun _ _ _ _ _ _ us hl => match us, hl with | [_, _, _, _], _ => rfl
  have F9 := fun_mk (st := s_are_never) l9 c9 k9
  have B9 := F9.binds (ps := ["first", "entries", "some"]) fun _ _ _ _ _ _ us hl => match us, hl with | [_, _, _], _ => rfl
  have F10 := fun_mk (st := s_judge_chain) l10 c10 k10
  have B10 := F10.binds (ps := ["first", "entries", "verdict"]) fun _ _ _ _ _ _ us hl => match us, hl with | [_, _, _], _ => rfl
  have F11 := fun_mk (st := s_law_cell) l11 c11 k11
  have B11 := F11.binds (ps := ["script", "k"]) fun _ _ _ _ _ _ us hl => match us, hl with | [_, _], _ => rfl
  have F12 := fun_mk (st := s_law_numbers) l12 c12 k12
  have B12 := F12.binds (ps := ["cell", "count", "limit"]) fun _ _ _ _ _ _ us hl => match us, hl with | [_, _, _], _ => rfl
  have F13 := fun_mk (st := s_law_same) l13 c13 k13
  have B13 := F13.binds (ps := ["told", "due"]) fun _ _ _ _ _ _ us hl => match us, hl with | [_, _], _ => rfl
  have F14 := fun_mk (st := s_law_draws) l14 c14 k14
  have B14 := F14.binds (ps := ["script", "k", "count"]) fun _ _ _ _ _ _ us hl => match us, hl with | [_, _, _], _ => rfl
  have F15 := fun_mk (st := s_law_says) l15 c15 k15
  have B15 := F15.binds (ps := ["told", "due"]) fun _ _ _ _ _ _ us hl => match us, hl with | [_, _], _ => rfl
  have F16 := fun_mk (st := s_law_entries) l16 c16 k16
  have B16 := F16.binds (ps := ["script", "draws"]) fun _ _ _ _ _ _ us hl => match us, hl with | [_, _], _ => rfl
  have F17 := fun_mk (st := s_law_breaks) l17 c17 k17
  have B17 := F17.binds (ps := ["first", "entries"]) fun _ _ _ _ _ _ us hl => match us, hl with | [_, _], _ => rfl
  have F18 := fun_mk (st := s_law_holder) l18 c18 k18
  have B18 := F18.binds (ps := ["first", "entries", "k"]) fun _ _ _ _ _ _ us hl => match us, hl with | [_, _, _], _ => rfl
  have F19 := fun_mk (st := s_law_due) l19 c19 k19
  have B19 := F19.binds (ps := ["first", "entries"]) fun _ _ _ _ _ _ us hl => match us, hl with | [_, _], _ => rfl
  have F20 := fun_mk (st := s_law_accepts) l20 c20 k20
  have B20 := F20.binds (ps := ["first", "entries", "paper"]) fun _ _ _ _ _ _ us hl => match us, hl with | [_, _, _], _ => rfl
  have F21 := fun_mk (st := s_law_papers) l21 c21 k21
  have B21 := F21.binds (ps := ["first", "entries", "due", "draws"]) fun _ _ _ _ _ _ us hl => match us, hl with | [_, _, _, _], _ => rfl
  have F22 := fun_mk (st := s_law_chain_holds) l22 c22 k22
  have B22 := F22.binds (ps := ["first", "entries", "draws"]) fun _ _ _ _ _ _ us hl => match us, hl with | [_, _, _], _ => rfl
  have F23 := fun_mk (st := s_law) l23 c23 k23
  have B23 := F23.binds (ps := ["script"]) fun _ _ _ _ _ _ us hl => match us, hl with | [_], _ => rfl
  refine ⟨_, fun s v => ?_, fun base _ _ => ok_law (T := ⟨F0, PySem.W.mg_of X G a0, B0, F1, PySem.W.mg_of X G a1, B1, F2, PySem.W.mg_of X G a2, B2, F3, PySem.W.mg_of X G a3, B3, F4, PySem.W.mg_of X G a4, B4, F5, PySem.W.mg_of X G a5, B5, F6, PySem.W.mg_of X G a6, B6, F7, PySem.W.mg_of X G a7, B7, F8, PySem.W.mg_of X G a8, B8, F9, PySem.W.mg_of X G a9, B9, F10, PySem.W.mg_of X G a10, B10, F11, PySem.W.mg_of X G a11, B11, F12, PySem.W.mg_of X G a12, B12, F13, PySem.W.mg_of X G a13, B13, F14, PySem.W.mg_of X G a14, B14, F15, PySem.W.mg_of X G a15, B15, F16, PySem.W.mg_of X G a16, B16, F17, PySem.W.mg_of X G a17, B17, F18, PySem.W.mg_of X G a18, B18, F19, PySem.W.mg_of X G a19, B19, F20, PySem.W.mg_of X G a20, B20, F21, PySem.W.mg_of X G a21, B21, F22, PySem.W.mg_of X G a22, B22, F23, PySem.W.mg_of X G a23, B23, PySem.W.mg_none_of X G z0, PySem.W.mg_none_of X G z1, PySem.W.mg_none_of X G z2, PySem.W.mg_none_of X G z3, PySem.W.mg_none_of X G z4, PySem.W.mg_none_of X G z5, PySem.W.mg_none_of X G z6, PySem.W.mg_none_of X G z7, PySem.W.mg_none_of X G z8, PySem.W.mg_none_of X G z9, PySem.W.mg_none_of X G z10, PySem.W.mg_none_of X G z11⟩)⟩
  exact .of_eq rfl

end DL
open PySem PySem.W PyProof.Rows
set_option maxHeartbeats 0 in
theorem PySem.Challenge.cw_juriesagree_k75_whole_long_rows_of_hands_holds : PySem.Challenge.rw_juriesagree_k75_whole_long_rows_of_hands.Holds := by
  w_on; o_law; k_head; (case hw => w_witness2)
  k_fill
  refine L2.walk_of (l := PySem.Challenge.rw_juriesagree_k75_whole_long_rows_of_hands) (n := 63) (k := 11) (x := "script") (CX := fun _ => L2.CX0) (sp := fun w => DL.spD false _ DL.sp_law) rfl (by decide) rfl ⟨rfl, by decide, by decide⟩ (fun w h Y => PySem.W.kIn_of Y) ?F (fun w H a ns hl _ hS => DL.law_start ns hl hS) (fun _ _ _ _ _ h => h)
  case F =>
    intro w mg fa h KX G hmg
    refine' DL.all_mk KX G hmg ?a0 ?l0 ?c0 ?k0 ?a1 ?l1 ?c1 ?k1 ?a2 ?l2 ?c2 ?k2 ?a3 ?l3 ?c3 ?k3 ?a4 ?l4 ?c4 ?k4 ?a5 ?l5 ?c5 ?k5 ?a6 ?l6 ?c6 ?k6 ?a7 ?l7 ?c7 ?k7 ?a8 ?l8 ?c8 ?k8 ?a9 ?l9 ?c9 ?k9 ?a10 ?l10 ?c10 ?k10 ?a11 ?l11 ?c11 ?k11 ?a12 ?l12 ?c12 ?k12 ?a13 ?l13 ?c13 ?k13 ?a14 ?l14 ?c14 ?k14 ?a15 ?l15 ?c15 ?k15 ?a16 ?l16 ?c16 ?k16 ?a17 ?l17 ?c17 ?k17 ?a18 ?l18 ?c18 ?k18 ?a19 ?l19 ?c19 ?k19 ?a20 ?l20 ?c20 ?k20 ?a21 ?l21 ?c21 ?k21 ?a22 ?l22 ?c22 ?k22 ?a23 ?l23 ?c23 ?k23 ?z0 ?z1 ?z2 ?z3 ?z4 ?z5 ?z6 ?z7 ?z8 ?z9 ?z10 ?z11
    (case a0 => k_is); (case l0 => k_is); (case c0 => k_is); (case k0 => k_is); (case a1 => k_is); (case l1 => k_is); (case c1 => k_is); (case k1 => k_is)
    (case a2 => k_is); (case l2 => k_is); (case c2 => k_is); (case k2 => k_is); (case a3 => k_is); (case l3 => k_is); (case c3 => k_is); (case k3 => k_is)
    (case a4 => k_is); (case l4 => k_is); (case c4 => k_is); (case k4 => k_is); (case a5 => k_is); (case l5 => k_is); (case c5 => k_is); (case k5 => k_is)
    (case a6 => k_is); (case l6 => k_is); (case c6 => k_is); (case k6 => k_is); (case a7 => k_is); (case l7 => k_is); (case c7 => k_is); (case k7 => k_is)
    (case a8 => k_is); (case l8 => k_is); (case c8 => k_is); (case k8 => k_is); (case a9 => k_is); (case l9 => k_is); (case c9 => k_is); (case k9 => k_is)
    (case a10 => k_is); (case l10 => k_is); (case c10 => k_is); (case k10 => k_is); (case a11 => k_is); (case l11 => k_is); (case c11 => k_is); (case k11 => k_is)
    (case a12 => k_is); (case l12 => k_is); (case c12 => k_is); (case k12 => k_is); (case a13 => k_is); (case l13 => k_is); (case c13 => k_is); (case k13 => k_is)
    (case a14 => k_is); (case l14 => k_is); (case c14 => k_is); (case k14 => k_is); (case a15 => k_is); (case l15 => k_is); (case c15 => k_is); (case k15 => k_is)
    (case a16 => k_is); (case l16 => k_is); (case c16 => k_is); (case k16 => k_is); (case a17 => k_is); (case l17 => k_is); (case c17 => k_is); (case k17 => k_is)
    (case a18 => k_is); (case l18 => k_is); (case c18 => k_is); (case k18 => k_is); (case a19 => k_is); (case l19 => k_is); (case c19 => k_is); (case k19 => k_is)
    (case a20 => k_is); (case l20 => k_is); (case c20 => k_is); (case k20 => k_is); (case a21 => k_is); (case l21 => k_is); (case c21 => k_is); (case k21 => k_is)
    (case a22 => k_is); (case l22 => k_is); (case c22 => k_is); (case k22 => k_is); (case a23 => k_is); (case l23 => k_is); (case c23 => k_is); (case k23 => k_is)
    (case z0 => k_is); (case z1 => k_is); (case z2 => k_is); (case z3 => k_is); (case z4 => k_is); (case z5 => k_is); (case z6 => k_is); (case z7 => k_is)
    (case z8 => k_is); (case z9 => k_is); (case z10 => k_is); (case z11 => k_is)

