import PyProof.Rows.All
import Wide.All
import OpenK.AllK
import Wide.FinOn
import HandS.ForMost
import HandS.Exc
import HandS.TryOnly
import HandS.ExcOwn
import HandS.WordsExc
import HandS.Walk
import HandS.Wide
import HandS.WideBits
import HandS.IsInst
import HandS.Defaults
import HandS.Flow
import HandS.TupLen
import HandS.Small
import HandS.More
import HandS.Conv
import HandS.CallSlots
import HandS.SortInts
import KE.KDictWalk
import PySem.Challenge.RW_spinfloor_k52_whole_near_a_line
set_option Elab.async false
set_option linter.all false
set_option maxRecDepth 100000
set_option maxHeartbeats 1000000
/-! FN, part A: data, slots, frozen heaps: what stands behind the plain function of a def. -/
namespace FN
open PySem PySem.Spec PyProof.Rows L2

/-! ### 1. data -/
inductive D where
  | non | bl (b : Bool) | int (i : Int) | str (s : Str)
  | lst (xs : List D) | scr (xs : List D) | tup (xs : List D)
  | obj (C : Addr) (fs : List (Str × D))
  | dK (kvs : List (Key × D)) | dT (kvs : List (List Key × D))
  | cls (v : V)

/-- pointwise -/
def All2 {α β : Type} (R : α → β → Prop) (xs : List α) (ys : List β) : Prop :=
  xs.length = ys.length ∧ ∀ (i : Nat) x y, xs[i]? = some x → ys[i]? = some y → R x y
section
variable {α β : Type} {R S : α → β → Prop}
theorem All2.nil : All2 R [] [] := ⟨rfl, fun i x y h => by simp at h⟩
theorem All2.cons {x : α} {y : β} {xs : List α} {ys : List β} (h : R x y) (t : All2 R xs ys) : All2 R (x :: xs) (y :: ys) :=
  ⟨by simp [t.1], fun i a b ha hb => by
    cases i with
    | zero => simp at ha hb; subst ha; subst hb; exact h
    | succ i => simp at ha hb; exact t.2 i a b ha hb⟩
theorem All2.tail {x : α} {y : β} {xs : List α} {ys : List β} (t : All2 R (x :: xs) (y :: ys)) : All2 R xs ys :=
  ⟨by simpa using t.1, fun i a b ha hb => t.2 (i + 1) a b (by simpa using ha) (by simpa using hb)⟩
theorem All2.head {x : α} {y : β} {xs : List α} {ys : List β} (t : All2 R (x :: xs) (y :: ys)) : R x y := t.2 0 x y rfl rfl
theorem All2.nil_l {ys : List β} (t : All2 R [] ys) : ys = [] := by
  have := t.1; cases ys with
  | nil => rfl
  | cons a b => simp at this
theorem All2.nil_r {xs : List α} (t : All2 R xs []) : xs = [] := by
  have := t.1; cases xs with
  | nil => rfl
  | cons a b => simp at this
theorem All2.cons_r {y : β} {xs : List α} {ys : List β} (t : All2 R xs (y :: ys)) : ∃ x r, xs = x :: r ∧ R x y ∧ All2 R r ys := by
  cases xs with
  | nil => have := t.1; simp at this
  | cons a b => exact ⟨a, b, rfl, t.head, t.tail⟩
theorem All2.mono {xs : List α} {ys : List β} (t : All2 R xs ys) (h : ∀ x y, R x y → S x y) : All2 S xs ys := ⟨t.1, fun i x y a b => h _ _ (t.2 i x y a b)⟩
theorem All2.get {xs : List α} {ys : List β} {i : Nat} {y : β} (t : All2 R xs ys) (h : ys[i]? = some y) : ∃ x, xs[i]? = some x ∧ R x y := by
  have hl : i < xs.length := by rw [t.1]; exact (List.getElem?_eq_some_iff.mp h).1
  exact ⟨xs[i], by simp [hl], t.2 i _ _ (by simp [hl]) h⟩
theorem All2.getL {xs : List α} {ys : List β} {i : Nat} {x : α} (t : All2 R xs ys) (h : xs[i]? = some x) : ∃ y, ys[i]? = some y ∧ R x y := by
  have hl : i < ys.length := by rw [← t.1]; exact (List.getElem?_eq_some_iff.mp h).1
  exact ⟨ys[i], by simp [hl], t.2 i _ _ h (by simp [hl])⟩
theorem All2.append : ∀ {xs xs' : List α} {ys ys' : List β}, All2 R xs ys → All2 R xs' ys' → All2 R (xs ++ xs') (ys ++ ys')
  | [], _, [], _, _, h => h
  | [], _, y :: ys, _, t, _ => by have := t.1; simp at this
  | x :: xs, _, [], _, t, _ => by have := t.1; simp at this
  | x :: xs, _, y :: ys, _, t, h => All2.cons t.head (All2.append t.tail h)
theorem All2.set {xs : List α} {ys : List β} {x : α} {y : β} (j : Nat) (t : All2 R xs ys) (h : R x y) : All2 R (xs.set j x) (ys.set j y) :=
  ⟨by simp [t.1], fun i a b ha hb => by
    rw [List.getElem?_set] at ha hb
    by_cases e : j = i
    · subst e
      by_cases hl : j < xs.length
      · have hl2 : j < ys.length := by rw [← t.1]; exact hl
        simp [hl] at ha; simp [hl2] at hb
        subst ha; subst hb; exact h
      · simp [hl] at ha
    · simp [e] at ha hb
      exact t.2 i a b ha hb⟩
theorem All2.take {xs : List α} {ys : List β} (n : Nat) (t : All2 R xs ys) : All2 R (xs.take n) (ys.take n) :=
  ⟨by simp [t.1], fun i a b ha hb => by
    rw [List.getElem?_take] at ha hb
    split at ha
    · rename_i h; rw [if_pos h] at hb; exact t.2 i a b ha hb
    · cases ha⟩
theorem All2.drop {xs : List α} {ys : List β} (n : Nat) (t : All2 R xs ys) : All2 R (xs.drop n) (ys.drop n) :=
  ⟨by simp [t.1], fun i a b ha hb => by
    rw [List.getElem?_drop] at ha hb
    exact t.2 _ a b ha hb⟩
theorem All2.dropLast {xs : List α} {ys : List β} (t : All2 R xs ys) : All2 R xs.dropLast ys.dropLast := by
  rw [List.dropLast_eq_take, List.dropLast_eq_take, t.1]; exact t.take _
theorem All2.reverse {xs : List α} {ys : List β} (t : All2 R xs ys) : All2 R xs.reverse ys.reverse :=
  ⟨by simp [t.1], fun i a b ha hb => by
    have h1 : i < xs.length := by have := (List.getElem?_eq_some_iff.mp ha).1; simpa using this
    have h2 : i < ys.length := by rw [← t.1]; exact h1
    rw [List.getElem?_reverse h1] at ha
    rw [List.getElem?_reverse h2] at hb
    rw [t.1] at ha
    exact t.2 _ a b ha hb⟩
theorem All2.eraseIdx {xs : List α} {ys : List β} (n : Nat) (t : All2 R xs ys) : All2 R (xs.eraseIdx n) (ys.eraseIdx n) := by
  rw [List.eraseIdx_eq_take_drop_succ, List.eraseIdx_eq_take_drop_succ]; exact (t.take n).append (t.drop (n + 1))
end

/-! ### 2. what represents what, in a frozen heap G -/
inductive Rp (K : PySem.W.Frag) (G : Hp) : V → D → Prop
  | non : Rp K G .non .non
  | bl {b : Bool} : Rp K G (.bl b) (.bl b)
  | int {i : Int} : Rp K G (.int i) (.int i)
  | str {s : Str} : Rp K G (.str s) (.str s)
  | lst {a : Addr} {vs : List V} {ds : List D} (h : G a = some (.lst vs)) (hl : vs.length = ds.length) (hi : ∀ (i : Nat) v d, vs[i]? = some v → ds[i]? = some d → Rp K G v d) : Rp K G (.ref a) (.lst ds)
  | scr {a : Addr} {vs : List V} {ds : List D} (h : SqL K G a vs) (hl : vs.length = ds.length) (hi : ∀ (i : Nat) v d, vs[i]? = some v → ds[i]? = some d → Rp K G v d) : Rp K G (.ref a) (.scr ds)
  | tup {a : Addr} {vs : List V} {ds : List D} (h : G a = some (.tup vs)) (hl : vs.length = ds.length) (hi : ∀ (i : Nat) v d, vs[i]? = some v → ds[i]? = some d → Rp K G v d) : Rp K G (.ref a) (.tup ds)
  | obj {a C dx : Addr} {vs : List (Str × V)} {ds : List (Str × D)} (h : G a = some (.ins C dx vs)) (hk : vs.map (·.1) = ds.map (·.1)) (hi : ∀ (i : Nat) p q, vs[i]? = some p → ds[i]? = some q → Rp K G p.2 q.2) : Rp K G (.ref a) (.obj C ds)
  | dK {a : Addr} {vs : List (Key × V)} {ds : List (Key × D)} (h : G a = some (.dK vs)) (hk : vs.map (·.1) = ds.map (·.1)) (hi : ∀ (i : Nat) p q, vs[i]? = some p → ds[i]? = some q → Rp K G p.2 q.2) : Rp K G (.ref a) (.dK ds)
  | dT {a : Addr} {vs : List (List Key × V)} {ds : List (List Key × D)} (h : G a = some (.dT vs)) (hk : vs.map (·.1) = ds.map (·.1)) (hi : ∀ (i : Nat) p q, vs[i]? = some p → ds[i]? = some q → Rp K G p.2 q.2) : Rp K G (.ref a) (.dT ds)
  | cls {v : V} : Rp K G v (.cls v)
abbrev Rps (K : PySem.W.Frag) (G : Hp) : List V → List D → Prop := All2 (Rp K G)
/-- pairs with alike first parts -/
def RKV {κ : Type} (K : PySem.W.Frag) (G : Hp) (vs : List (κ × V)) (ds : List (κ × D)) : Prop :=
  All2 (fun p q => p.1 = q.1 ∧ Rp K G p.2 q.2) vs ds
theorem RKV.of {κ : Type} {K : PySem.W.Frag} {G : Hp} {vs : List (κ × V)} {ds : List (κ × D)} (hk : vs.map (·.1) = ds.map (·.1)) (hi : ∀ (i : Nat) p q, vs[i]? = some p → ds[i]? = some q → Rp K G p.2 q.2) : RKV K G vs ds := by
  refine ⟨by simpa using congrArg List.length hk, fun i p q hp hq => ⟨?_, hi i p q hp hq⟩⟩
  have h := congrArg (fun l => l[i]?) hk
  simp only [List.getElem?_map, hp, hq, Option.map_some, Option.some.injEq] at h
  exact h
theorem RKV.keys {κ : Type} {K : PySem.W.Frag} {G : Hp} {vs : List (κ × V)} {ds : List (κ × D)} (h : RKV K G vs ds) : vs.map (·.1) = ds.map (·.1) := by
  apply List.ext_getElem?
  intro i
  simp only [List.getElem?_map]
  cases e : vs[i]? with
  | none =>
    have : ds[i]? = none := by rw [List.getElem?_eq_none_iff] at e ⊢; rw [← h.1]; exact e
    rw [this]; rfl
  | some p =>
    obtain ⟨q, hq, r⟩ := h.getL e
    rw [hq]; simp [r.1]
section
variable {K : PySem.W.Frag} {G G' : Hp} {v : V}
theorem rp_lst {a : Addr} {vs : List V} {ds : List D} (h : G a = some (.lst vs)) (t : Rps K G vs ds) : Rp K G (.ref a) (.lst ds) := .lst h t.1 t.2
theorem rp_tup {a : Addr} {vs : List V} {ds : List D} (h : G a = some (.tup vs)) (t : Rps K G vs ds) : Rp K G (.ref a) (.tup ds) := .tup h t.1 t.2
theorem rp_scr {a : Addr} {vs : List V} {ds : List D} (h : SqL K G a vs) (t : Rps K G vs ds) : Rp K G (.ref a) (.scr ds) := .scr h t.1 t.2
theorem rp_obj {a C dx : Addr} {vs : List (Str × V)} {ds : List (Str × D)} (h : G a = some (.ins C dx vs)) (t : RKV K G vs ds) : Rp K G (.ref a) (.obj C ds) := .obj h t.keys fun i p q a b => (t.2 i p q a b).2
theorem rp_dK {a : Addr} {vs : List (Key × V)} {ds : List (Key × D)} (h : G a = some (.dK vs)) (t : RKV K G vs ds) : Rp K G (.ref a) (.dK ds) := .dK h t.keys fun i p q a b => (t.2 i p q a b).2
theorem rp_dT {a : Addr} {vs : List (List Key × V)} {ds : List (List Key × D)} (h : G a = some (.dT vs)) (t : RKV K G vs ds) : Rp K G (.ref a) (.dT ds) := .dT h t.keys fun i p q a b => (t.2 i p q a b).2
theorem Rp.inv_non (h : Rp K G v .non) : v = .non := by cases h; rfl
theorem Rp.inv_int {i : Int} (h : Rp K G v (.int i)) : v = .int i := by cases h; rfl
theorem Rp.inv_bl {b : Bool} (h : Rp K G v (.bl b)) : v = .bl b := by cases h; rfl
theorem Rp.inv_str {s : Str} (h : Rp K G v (.str s)) : v = .str s := by cases h; rfl
theorem Rp.inv_cls {x : V} (h : Rp K G v (.cls x)) : v = x := by cases h; rfl
theorem Rp.inv_lst {ds : List D} (h : Rp K G v (.lst ds)) : ∃ a vs, v = .ref a ∧ G a = some (.lst vs) ∧ Rps K G vs ds := by
  cases h with
  | lst h hl hi => exact ⟨_, _, rfl, h, hl, hi⟩
theorem Rp.inv_tup {ds : List D} (h : Rp K G v (.tup ds)) : ∃ a vs, v = .ref a ∧ G a = some (.tup vs) ∧ Rps K G vs ds := by
  cases h with
  | tup h hl hi => exact ⟨_, _, rfl, h, hl, hi⟩
theorem Rp.inv_scr {ds : List D} (h : Rp K G v (.scr ds)) : ∃ a vs, v = .ref a ∧ SqL K G a vs ∧ Rps K G vs ds := by
  cases h with
  | scr h hl hi => exact ⟨_, _, rfl, h, hl, hi⟩
theorem Rp.inv_obj {C : Addr} {ds : List (Str × D)} (h : Rp K G v (.obj C ds)) : ∃ a dx vs, v = .ref a ∧ G a = some (.ins C dx vs) ∧ RKV K G vs ds := by
  cases h with
  | obj h hl hi => exact ⟨_, _, _, rfl, h, .of hl hi⟩
theorem Rp.inv_dK {ds : List (Key × D)} (h : Rp K G v (.dK ds)) : ∃ a vs, v = .ref a ∧ G a = some (.dK vs) ∧ RKV K G vs ds := by
  cases h with
  | dK h hl hi => exact ⟨_, _, rfl, h, .of hl hi⟩
theorem Rp.inv_dT {ds : List (List Key × D)} (h : Rp K G v (.dT ds)) : ∃ a vs, v = .ref a ∧ G a = some (.dT vs) ∧ RKV K G vs ds := by
  cases h with
  | dT h hl hi => exact ⟨_, _, rfl, h, .of hl hi⟩
theorem same_seq {H H' : Hp} {a : Addr} {xs : List V} (e : Same H H') (h : SqL K H a xs) : SqL K H' a xs := e.seq h
theorem Rp.mono {d : D} (h : Rp K G v d) (e : Same G G') : Rp K G' v d := by
  induction h with
  | non => exact .non
  | bl => exact .bl
  | int => exact .int
  | str => exact .str
  | lst h hl hi ih => exact .lst (e _ _ h) hl ih
  | scr h hl hi ih => exact .scr (e.seq h) hl ih
  | tup h hl hi ih => exact .tup (e _ _ h) hl ih
  | obj h hl hi ih => exact .obj (e _ _ h) hl ih
  | dK h hl hi ih => exact .dK (e _ _ h) hl ih
  | dT h hl hi ih => exact .dT (e _ _ h) hl ih
  | cls => exact .cls
theorem Rps.mono {vs : List V} {ds : List D} (h : Rps K G vs ds) (e : Same G G') : Rps K G' vs ds := All2.mono h fun _ _ r => r.mono e
theorem RKV.mono {κ : Type} {vs : List (κ × V)} {ds : List (κ × D)} (h : RKV K G vs ds) (e : Same G G') : RKV K G' vs ds := All2.mono h fun _ _ r => ⟨r.1, r.2.mono e⟩
theorem Rps.ints : ∀ {ns : List Int} {vs : List V}, Rps K G vs (ns.map D.int) → vs = ns.map V.int
  | [], vs, h => All2.nil_r h
  | n :: ns, vs, h => by
    obtain ⟨x, r, rfl, a, b⟩ := All2.cons_r (y := D.int n) (ys := ns.map D.int) h
    rw [a.inv_int, Rps.ints b]; rfl
theorem Rps.of_ints : ∀ ns : List Int, Rps K G (ns.map V.int) (ns.map D.int)
  | [] => All2.nil
  | n :: ns => All2.cons .int (Rps.of_ints ns)
theorem Rps.bls : ∀ {ns : List Bool} {vs : List V}, Rps K G vs (ns.map D.bl) → vs = ns.map V.bl
  | [], vs, h => All2.nil_r h
  | n :: ns, vs, h => by
    obtain ⟨x, r, rfl, a, b⟩ := All2.cons_r (y := D.bl n) (ys := ns.map D.bl) h
    rw [a.inv_bl, Rps.bls b]; rfl
theorem Rps.strs : ∀ {ns : List Str} {vs : List V}, Rps K G vs (ns.map D.str) → vs = ns.map V.str
  | [], vs, h => All2.nil_r h
  | n :: ns, vs, h => by
    obtain ⟨x, r, rfl, a, b⟩ := All2.cons_r (y := D.str n) (ys := ns.map D.str) h
    rw [a.inv_str, Rps.strs b]; rfl
theorem Rps.of_strs : ∀ ns : List Str, Rps K G (ns.map V.str) (ns.map D.str)
  | [] => All2.nil
  | n :: ns => All2.cons .str (Rps.of_strs ns)
end

/-! ### 3. slots -/
inductive Sl where
  /-- nothing is known -/
  | un
  /-- frozen data -/
  | fz (d : D)
  /-- a list, a dict of one's own (of frozen data); a list of one's own lists -/
  | oL (xs : List D) | oK (kvs : List (Key × D)) | oT (kvs : List (List Key × D)) | oLL (xss : List (List D))
  /-- an instance that is being made, or that is changed -/
  | oI (p C : Addr) (fs : List (Str × D))
def Sl.fr : Sl → Option D
  | .un => none
  | .fz d => some d
  | .oL xs => some (.lst xs)
  | .oK kvs => some (.dK kvs)
  | .oT kvs => some (.dT kvs)
  | .oLL xss => some (.lst (xss.map D.lst))
  | .oI _ C fs => some (.obj C fs)

def RpS (K : PySem.W.Frag) (G H : Hp) (o : Option V) : Sl → List Addr → Prop
  | .un, fp => fp = []
  | .fz d, fp => fp = [] ∧ ∃ v, o = some v ∧ Rp K G v d
  | .oL ds, fp => ∃ p vs, fp = [p] ∧ o = some (.ref p) ∧ H p = some (.lst vs) ∧ Rps K G vs ds
  | .oK ds, fp => ∃ p vs, fp = [p] ∧ o = some (.ref p) ∧ H p = some (.dK vs) ∧ RKV K G vs ds
  | .oT ds, fp => ∃ p vs, fp = [p] ∧ o = some (.ref p) ∧ H p = some (.dT vs) ∧ RKV K G vs ds
  | .oLL xss, fp => ∃ p cs, fp = p :: cs ∧ o = some (.ref p) ∧ H p = some (.lst (cs.map V.ref)) ∧ (p :: cs).Nodup ∧ All2 (fun c ds => ∃ vs, H c = some (.lst vs) ∧ Rps K G vs ds) cs xss
  | .oI p C fs, fp => ∃ dx vs, fp = [p] ∧ o = some (.ref p) ∧ H p = some (.ins C dx vs) ∧ RKV K G vs fs

/-- a thing that is no tuple stands at a -/
def Nt (H : Hp) (a : Addr) : Prop := ∃ o, H a = some o ∧ ∀ xs, o ≠ HO.tup xs
theorem Nt.ne {H : Hp} {a : Addr} (h : Nt H a) : H a ≠ none := by
  obtain ⟨o, e, _⟩ := h
  rw [e]; exact fun q => nomatch q
theorem nt_of {H : Hp} {a : Addr} {o : HO} (h : H a = some o) (n : ∀ xs, o ≠ HO.tup xs := by intro _ z; cases z) : Nt H a := ⟨o, h, n⟩
theorem Nt.same {H H' : Hp} {a : Addr} (h : Nt H a) (e : Same H H') : Nt H' a := by
  obtain ⟨o, q, n⟩ := h
  exact ⟨o, e _ _ q, n⟩
theorem Nt.eq {H H' : Hp} {a : Addr} (h : Nt H a) (e : H' a = H a) : Nt H' a := by
  obtain ⟨o, q, n⟩ := h
  exact ⟨o, e.trans q, n⟩
/-- the frame's slots as data; F i: what slot i owns -/
structure SE (K : PySem.W.Frag) (G H : Hp) (σ : L2.St) (ρ : List Sl) (F : Nat → List Addr) : Prop where
  gh : Same G H
  len : σ.length = ρ.length
  sl : ∀ i s, ρ[i]? = some s → ∃ o, σ[i]? = some o ∧ RpS K G H o s (F i)
  out : ∀ i, ρ.length ≤ i → F i = []
  own : ∀ i p, p ∈ F i → G p = none ∧ Nt H p
  dis : ∀ i j p, p ∈ F i → p ∈ F j → i = j

/-- more is frozen, more stands; nothing that stood is frozen anew -/
structure Xt (G H G' H' : Hp) : Prop where
  g : Same G G'
  h : Same H H'
  gh : Same G' H'
  old : ∀ a, Nt H a → G' a = G a
theorem Xt.refl {G H : Hp} (e : Same G H) : Xt G H G H := ⟨Same.refl G, Same.refl H, e, fun _ _ => rfl⟩
theorem ne_none_of {H : Hp} {a : Addr} {o : HO} (h : H a = some o) : H a ≠ none := by rw [h]; exact fun q => nomatch q
theorem Same.some {H H' : Hp} {a : Addr} (e : Same H H') (h : H a ≠ none) : H' a = H a := by
  cases q : H a with
  | none => exact absurd q h
  | some o => exact e a o q
theorem Xt.trans {G H G1 H1 G2 H2 : Hp} (a : Xt G H G1 H1) (b : Xt G1 H1 G2 H2) : Xt G H G2 H2 :=
  ⟨a.g.trans b.g, a.h.trans b.h, b.gh, fun x hx => (b.old x (hx.same a.h)).trans (a.old x hx)⟩
section
variable {K : PySem.W.Frag} {G G' H H' : Hp} {σ : L2.St} {ρ : List Sl} {F : Nat → List Addr}
theorem RpS.mono {o : Option V} {s : Sl} {fp : List Addr} (r : RpS K G H o s fp) (g : Same G G') (h : ∀ p ∈ fp, H' p = H p) : RpS K G' H' o s fp := by
  cases s with
  | un => exact r
  | fz d => obtain ⟨a, v, b, c⟩ := r; exact ⟨a, v, b, c.mono g⟩
  | oL ds => obtain ⟨p, vs, rfl, b, c, d⟩ := r; exact ⟨p, vs, rfl, b, (h p (by simp)).trans c, Rps.mono d g⟩
  | oK ds => obtain ⟨p, vs, rfl, b, c, d⟩ := r; exact ⟨p, vs, rfl, b, (h p (by simp)).trans c, RKV.mono d g⟩
  | oT ds => obtain ⟨p, vs, rfl, b, c, d⟩ := r; exact ⟨p, vs, rfl, b, (h p (by simp)).trans c, RKV.mono d g⟩
  | oI p C fs => obtain ⟨dx, vs, rfl, b, c, d⟩ := r; exact ⟨dx, vs, rfl, b, (h p (by simp)).trans c, RKV.mono d g⟩
  | oLL xss =>
    obtain ⟨p, cs, rfl, b, c, d, e⟩ := r
    refine ⟨p, cs, rfl, b, (h p (by simp)).trans c, d, e.1, fun i x y hx hy => ?_⟩
    obtain ⟨vs, q1, q2⟩ := e.2 i x y hx hy
    exact ⟨vs, (h x (List.mem_cons_of_mem _ (List.mem_of_getElem? hx))).trans q1, Rps.mono q2 g⟩
theorem RpS.mem_ne {o : Option V} {s : Sl} {fp : List Addr} (r : RpS K G H o s fp) : ∀ p ∈ fp, Nt H p := by
  intro p hp
  cases s with
  | un => rw [show fp = [] from r] at hp; simp at hp
  | fz d => rw [r.1] at hp; simp at hp
  | oL ds => obtain ⟨q, vs, rfl, b, c, d⟩ := r; simp at hp; subst hp; exact nt_of c
  | oK ds => obtain ⟨q, vs, rfl, b, c, d⟩ := r; simp at hp; subst hp; exact nt_of c
  | oT ds => obtain ⟨q, vs, rfl, b, c, d⟩ := r; simp at hp; subst hp; exact nt_of c
  | oI q C fs => obtain ⟨dx, vs, rfl, b, c, d⟩ := r; simp at hp; subst hp; exact nt_of c
  | oLL xss =>
    obtain ⟨q, cs, rfl, b, c, d, e⟩ := r
    rcases List.mem_cons.mp hp with rfl | hp
    · exact nt_of c
    · obtain ⟨i, hi⟩ := List.getElem?_of_mem hp
      obtain ⟨ds, _, vs, q1, _⟩ := e.getL hi
      exact nt_of q1
theorem SE.xt (e : SE K G H σ ρ F) (x : Xt G H G' H') : SE K G' H' σ ρ F where
  gh := x.gh
  len := e.len
  sl := fun i s hs => by
    obtain ⟨o, h1, h2⟩ := e.sl i s hs
    exact ⟨o, h1, h2.mono x.g fun p hp => Same.some x.h (e.own i p hp).2.ne⟩
  out := e.out
  own := fun i p hp => by
    obtain ⟨a, b⟩ := e.own i p hp
    exact ⟨(x.old p b).trans a, b.same x.h⟩
  dis := e.dis
/-- all that is owned at fp is frozen -/
def frz (G H : Hp) (fp : List Addr) : Hp := fun a => if a ∈ fp then H a else G a
theorem frz_in {fp : List Addr} {a : Addr} (h : a ∈ fp) : frz G H fp a = H a := by unfold frz; rw [if_pos h]
theorem frz_out {fp : List Addr} {a : Addr} (h : a ∉ fp) : frz G H fp a = G a := by unfold frz; rw [if_neg h]
theorem frz_same {fp : List Addr} (h : ∀ p ∈ fp, G p = none) : Same G (frz G H fp) := fun b o e => by
  by_cases hb : b ∈ fp
  · rw [h b hb] at e; cases e
  · rw [frz_out hb]; exact e
theorem frz_sub {fp : List Addr} (gh : Same G H) : Same (frz G H fp) H := fun b o e => by
  by_cases hb : b ∈ fp
  · rw [frz_in hb] at e; exact e
  · rw [frz_out hb] at e; exact gh b o e
theorem rps_lists {cs : List Addr} {xss : List (List D)} (gg : Same G G') (hc : ∀ c ∈ cs, G' c = H c) (e : All2 (fun c ds => ∃ vs, H c = some (.lst vs) ∧ Rps K G vs ds) cs xss) : Rps K G' (cs.map V.ref) (xss.map D.lst) :=
  ⟨by simp [e.1], fun i x y hx hy => by
    rw [List.getElem?_map] at hx hy
    cases q1 : cs[i]? with
    | none => rw [q1] at hx; cases hx
    | some c =>
      cases q2 : xss[i]? with
      | none => rw [q2] at hy; cases hy
      | some ds =>
        rw [q1] at hx; rw [q2] at hy
        simp at hx hy; subst hx; subst hy
        obtain ⟨vs, a, b⟩ := e.2 i c ds q1 q2
        exact rp_lst ((hc c (List.mem_of_getElem? q1)).trans a) (Rps.mono b gg)⟩
theorem RpS.frozen {v : V} {s : Sl} {fp : List Addr} {d : D} (r : RpS K G H (some v) s fp) (gg : Same G G') (hp : ∀ p ∈ fp, G' p = H p) (h : s.fr = some d) : Rp K G' v d := by
  cases s with
  | un => cases h
  | fz d' =>
    obtain ⟨_, w, e, q⟩ := r
    cases e; cases h; exact q.mono gg
  | oL ds =>
    obtain ⟨p, vs, rfl, b, c, q⟩ := r
    cases b; cases h
    exact rp_lst ((hp p (by simp)).trans c) (Rps.mono q gg)
  | oK ds =>
    obtain ⟨p, vs, rfl, b, c, q⟩ := r
    cases b; cases h
    exact rp_dK ((hp p (by simp)).trans c) (RKV.mono q gg)
  | oT ds =>
    obtain ⟨p, vs, rfl, b, c, q⟩ := r
    cases b; cases h
    exact rp_dT ((hp p (by simp)).trans c) (RKV.mono q gg)
  | oI p C fs =>
    obtain ⟨dx, vs, rfl, b, c, q⟩ := r
    cases b; cases h
    exact rp_obj ((hp p (by simp)).trans c) (RKV.mono q gg)
  | oLL xss =>
    obtain ⟨p, cs, rfl, b, c, nd, e⟩ := r
    cases b; cases h
    exact rp_lst ((hp p (by simp)).trans c) (rps_lists gg (fun x hx => hp x (List.mem_cons_of_mem _ hx)) e)
theorem RpS.isV {o : Option V} {s : Sl} {fp : List Addr} (r : RpS K G H o s fp) (h : s ≠ .un) : ∃ v, o = some v := by
  cases s with
  | un => exact absurd rfl h
  | fz d => obtain ⟨_, v, e, _⟩ := r; exact ⟨v, e⟩
  | oL ds => obtain ⟨p, vs, _, e, _⟩ := r; exact ⟨_, e⟩
  | oK ds => obtain ⟨p, vs, _, e, _⟩ := r; exact ⟨_, e⟩
  | oT ds => obtain ⟨p, vs, _, e, _⟩ := r; exact ⟨_, e⟩
  | oLL xss => obtain ⟨p, cs, _, e, _⟩ := r; exact ⟨_, e⟩
  | oI p C fs => obtain ⟨dx, vs, _, e, _⟩ := r; exact ⟨_, e⟩
/-- a fresh value is frozen -/
theorem freeze {G1 H1 : Hp} {v : V} {s : Sl} {fp : List Addr} {d : D} (x : Xt G H G1 H1) (r : RpS K G1 H1 (some v) s fp) (hf : ∀ p ∈ fp, H p = none ∧ G1 p = none) (h : s.fr = some d) :
    ∃ G2, Xt G H G2 H1 ∧ Same G1 G2 ∧ Rp K G2 v d := by
  have s1 : Same G1 (frz G1 H1 fp) := frz_same fun p hp => (hf p hp).2
  refine ⟨frz G1 H1 fp, ⟨x.g.trans s1, x.h, frz_sub x.gh, fun a ha => ?_⟩, s1, r.frozen s1 (fun p hp => frz_in hp) h⟩
  rw [frz_out fun hm => ha.ne (hf a hm).1]
  exact x.old a ha
end
end FN

set_option Elab.async false
set_option linter.all false
set_option maxRecDepth 100000
set_option maxHeartbeats 1000000
/-! FN, part B: expressions as plain functions of the slots. -/
namespace FN
open PySem PySem.Spec PyProof.Rows L2

/-! ### 4. results -/
inductive R (α : Type) where
  | val (a : α)
  | ex (C : Addr) (fs : Option (List (Str × D)))
def bnd {α β : Type} (r : Option (R α)) (k : α → Option (R β)) : Option (R β) :=
  match r with
  | some (.val a) => k a
  | some (.ex C fs) => some (.ex C fs)
  | none => none
@[simp] theorem bnd_val {α β : Type} {a : α} {k : α → Option (R β)} : bnd (some (.val a)) k = k a := rfl
@[simp] theorem bnd_ex {α β : Type} {C fs} {k : α → Option (R β)} : bnd (some (.ex C fs)) k = some (.ex C fs) := rfl
@[simp] theorem bnd_none {α β : Type} {k : α → Option (R β)} : bnd none k = none := rfl
def pur {α : Type} (o : Option α) : Option (R α) := o.map .val
@[simp] theorem pur_some {α : Type} {a : α} : pur (some a) = some (.val a) := rfl
@[simp] theorem pur_none {α : Type} : pur (none : Option α) = none := rfl
def frD (r : Option (R Sl)) : Option (R D) := bnd r fun s => pur s.fr
abbrev Env := List Sl

section
variable (K : PySem.W.Frag)
def ExR (G H : Hp) : Option Addr → Option (List (Str × D)) → Prop
  | none, none => True
  | some a, some fs => ∃ vs, H a = some (.xd vs) ∧ RKV K G vs fs
  | _, _ => False
/-- what is wanted of an exception -/
def PX (E : XK) (G H : Hp) (C : Addr) (fs : Option (List (Str × D))) : Prop :=
  ∀ d H' G', Xt G H G' H' → ExR K G' H' d fs → E (.ref C) d H'
/-- a borrowed value -/
def Bw (G H : Hp) (v : V) (s : Sl) : Prop := ∃ fp, RpS K G H (some v) s fp ∧ ∀ p ∈ fp, G p = none
/-- a value of one's own -/
def Ow (H0 G H : Hp) (v : V) (s : Sl) : Prop := ∃ fp, RpS K G H (some v) s fp ∧ ∀ p ∈ fp, H0 p = none ∧ G p = none
def PoE (E : XK) (G H : Hp) (Q : VK) : R Sl → Prop
  | .val s => ∀ v H' G', Xt G H G' H' → Ow K H G' H' v s → Q v H'
  | .ex C fs => PX K E G H C fs
def PoB (E : XK) (G H : Hp) (Q : VK) : R Sl → Prop
  | .val s => ∀ v H' G', Xt G H G' H' → Bw K G' H' v s → Q v H'
  | .ex C fs => PX K E G H C fs
def PoT (E : XK) (G H : Hp) (Q : Bool → Hp → Prop) : R Bool → Prop
  | .val b => ∀ H' G', Xt G H G' H' → Q b H'
  | .ex C fs => PX K E G H C fs
def PoA (E : XK) (G H : Hp) (Q : List V → Hp → Prop) : R (List D) → Prop
  | .val ds => ∀ vs H' G', Xt G H G' H' → Rps K G' vs ds → Q vs H'
  | .ex C fs => PX K E G H C fs
def PoAB (E : XK) (G H : Hp) (Q : List V → Hp → Prop) : R (List Sl) → Prop
  | .val ss => ∀ vs H' G', Xt G H G' H' → All2 (Bw K G' H') vs ss → Q vs H'
  | .ex C fs => PX K E G H C fs
variable (E : L2.St → XK)
def tFE (f : Env → Option (R Sl)) : TE := fun σ H Q => ∃ G ρ F r, SE K G H σ ρ F ∧ f ρ = some r ∧ PoE K (E σ) G H Q r
def tFB (f : Env → Option (R Sl)) : TE := fun σ H Q => ∃ G ρ F r, SE K G H σ ρ F ∧ f ρ = some r ∧ PoB K (E σ) G H Q r
def tFT (f : Env → Option (R Bool)) : TT := fun σ H Q => ∃ G ρ F r, SE K G H σ ρ F ∧ f ρ = some r ∧ PoT K (E σ) G H Q r
def tFA (f : Env → Option (R (List D))) : TA := fun σ H Q => ∃ G ρ F r, SE K G H σ ρ F ∧ f ρ = some r ∧ PoA K (E σ) G H Q r
def tFAB (f : Env → Option (R (List Sl))) : TA := fun σ H Q => ∃ G ρ F r, SE K G H σ ρ F ∧ f ρ = some r ∧ PoAB K (E σ) G H Q r
end
def FE (X : Cx) (E : L2.St → XK) (e : Expr) (f : Env → Option (R Sl)) : Prop := PE X e (tFE X.K E f)
def FB (X : Cx) (E : L2.St → XK) (e : Expr) (f : Env → Option (R Sl)) : Prop := PE X e (tFB X.K E f)
def FT (X : Cx) (E : L2.St → XK) (e : Expr) (f : Env → Option (R Bool)) : Prop := PT X e (tFT X.K E f)
def FW (X : Cx) (E : L2.St → XK) (e : Expr) (f : Env → Option (R Bool)) : Prop := PW X e (tFT X.K E f)
def FA (X : Cx) (E : L2.St → XK) (es : List Expr) (f : Env → Option (R (List D))) : Prop := PA X es (tFA X.K E f)
def FAB (X : Cx) (E : L2.St → XK) (es : List Expr) (f : Env → Option (R (List Sl))) : Prop := PA X es (tFAB X.K E f)

/-! ### 5. weakening, alternatives -/
theorem PE_le {X : Cx} {e : Expr} {t t' : TE} (h : PE X e t) (w : ∀ σ H Q, t' σ H Q → t σ H Q) : PE X e t' := ⟨fun pins s σ H Q I hw => h.run pins s σ H Q I (w _ _ _ hw)⟩
theorem PT_le {X : Cx} {e : Expr} {t t' : TT} (h : PT X e t) (w : ∀ σ H Q, t' σ H Q → t σ H Q) : PT X e t' := ⟨fun pins s σ H Q I hw => h.run pins s σ H Q I (w _ _ _ hw)⟩
theorem PW_le {X : Cx} {e : Expr} {t t' : TT} (h : PW X e t) (w : ∀ σ H Q, t' σ H Q → t σ H Q) : PW X e t' := ⟨fun wh pins s σ H Q I hw => h.run wh pins s σ H Q I (w _ _ _ hw)⟩
theorem PA_le {X : Cx} {e : List Expr} {t t' : TA} (h : PA X e t) (w : ∀ σ H Q, t' σ H Q → t σ H Q) : PA X e t' := ⟨fun p pins s σ H Q I hw => h.run p pins s σ H Q I (w _ _ _ hw)⟩
theorem PS_le {X : Cx} {e : Stmt} {t t' : TS} (h : PS X e t) (w : ∀ D σ H, t' D σ H → t D σ H) : PS X e t' := ⟨fun pins s σ H D I hw => h.run pins s σ H D I (w _ _ _ hw)⟩
theorem PSs_le {X : Cx} {e : List Stmt} {t t' : TS} (h : PSs X e t) (w : ∀ D σ H, t' D σ H → t D σ H) : PSs X e t' := ⟨fun pins s σ H D I hw => h.run pins s σ H D I (w _ _ _ hw)⟩
/-- the first that tells something -/
def alt {β : Type} (f g : Env → Option β) : Env → Option β := fun ρ => match f ρ with | some r => some r | none => g ρ
section
variable {X : Cx} {E : L2.St → XK} {e : Expr}
theorem fe_alt {f g : Env → Option (R Sl)} (hf : FE X E e f) (hg : FE X E e g) : FE X E e (alt f g) := ⟨fun pins s σ H Q I hw => by
  obtain ⟨G, ρ, F, r, hs, hr, hp⟩ := hw
  unfold alt at hr
  cases q : f ρ with
  | some r' => rw [q] at hr; cases hr; exact hf.run pins s σ H Q I ⟨G, ρ, F, _, hs, q, hp⟩
  | none => rw [q] at hr; exact hg.run pins s σ H Q I ⟨G, ρ, F, _, hs, hr, hp⟩⟩
theorem fb_alt {f g : Env → Option (R Sl)} (hf : FB X E e f) (hg : FB X E e g) : FB X E e (alt f g) := ⟨fun pins s σ H Q I hw => by
  obtain ⟨G, ρ, F, r, hs, hr, hp⟩ := hw
  unfold alt at hr
  cases q : f ρ with
  | some r' => rw [q] at hr; cases hr; exact hf.run pins s σ H Q I ⟨G, ρ, F, _, hs, q, hp⟩
  | none => rw [q] at hr; exact hg.run pins s σ H Q I ⟨G, ρ, F, _, hs, hr, hp⟩⟩
theorem ft_alt {f g : Env → Option (R Bool)} (hf : FT X E e f) (hg : FT X E e g) : FT X E e (alt f g) := ⟨fun pins s σ H Q I hw => by
  obtain ⟨G, ρ, F, r, hs, hr, hp⟩ := hw
  unfold alt at hr
  cases q : f ρ with
  | some r' => rw [q] at hr; cases hr; exact hf.run pins s σ H Q I ⟨G, ρ, F, _, hs, q, hp⟩
  | none => rw [q] at hr; exact hg.run pins s σ H Q I ⟨G, ρ, F, _, hs, hr, hp⟩⟩
end

/-! ### 6. how a part is used -/
section
variable {K : PySem.W.Frag} {G G1 H H1 : Hp} {σ : L2.St} {ρ : Env} {F : Nat → List Addr} {E : L2.St → XK}
theorem PX.xt {E : XK} {C fs} (h : PX K E G H C fs) (x : Xt G H G1 H1) : PX K E G1 H1 C fs := fun d H' G' y z => h d H' G' (x.trans y) z
theorem Bw.xt {v : V} {s : Sl} (b : Bw K G H v s) (x : Xt G H G1 H1) : Bw K G1 H1 v s := by
  obtain ⟨fp, r, h⟩ := b
  exact ⟨fp, r.mono x.g fun p hp => Same.some x.h (r.mem_ne p hp).ne, fun p hp => (x.old p (r.mem_ne p hp)).trans (h p hp)⟩
theorem Ow.bw {H0 : Hp} {v : V} {s : Sl} (b : Ow K H0 G H v s) : Bw K G H v s := by
  obtain ⟨fp, r, h⟩ := b
  exact ⟨fp, r, fun p hp => (h p hp).2⟩
theorem Ow.fz {H0 : Hp} {v : V} {d : D} (h : Rp K G v d) : Ow K H0 G H v (.fz d) := ⟨[], ⟨rfl, v, rfl, h⟩, fun p hp => by simp at hp⟩
theorem Bw.fz {v : V} {d : D} (h : Rp K G v d) : Bw K G H v (.fz d) := ⟨[], ⟨rfl, v, rfl, h⟩, fun p hp => by simp at hp⟩
theorem Bw.inv_fz {v : V} {d : D} (h : Bw K G H v (.fz d)) : Rp K G v d := by
  obtain ⟨fp, ⟨_, w, e, r⟩, _⟩ := h
  cases e; exact r
theorem Ow.back {H0 H0' : Hp} {v : V} {s : Sl} (b : Ow K H0 G H v s) (h : Same H0' H0) : Ow K H0' G H v s := by
  obtain ⟨fp, r, q⟩ := b
  exact ⟨fp, r, fun p hp => ⟨h.free (q p hp).1, (q p hp).2⟩⟩
theorem PoE.xt {E : XK} {Q : VK} {r : R Sl} (h : PoE K E G H Q r) (x : Xt G H G1 H1) : PoE K E G1 H1 Q r := by
  cases r with
  | val s => exact fun v H' G' y z => h v H' G' (x.trans y) (z.back x.h)
  | ex C fs => exact PX.xt h x
theorem PoB.xt {E : XK} {Q : VK} {r : R Sl} (h : PoB K E G H Q r) (x : Xt G H G1 H1) : PoB K E G1 H1 Q r := by
  cases r with
  | val s => exact fun v H' G' y z => h v H' G' (x.trans y) z
  | ex C fs => exact PX.xt h x
theorem PoT.xt {E : XK} {Q : Bool → Hp → Prop} {r : R Bool} (h : PoT K E G H Q r) (x : Xt G H G1 H1) : PoT K E G1 H1 Q r := by
  cases r with
  | val s => exact fun H' G' y => h H' G' (x.trans y)
  | ex C fs => exact PX.xt h x
theorem PoA.xt {E : XK} {Q : List V → Hp → Prop} {r : R (List D)} (h : PoA K E G H Q r) (x : Xt G H G1 H1) : PoA K E G1 H1 Q r := by
  cases r with
  | val s => exact fun v H' G' y z => h v H' G' (x.trans y) z
  | ex C fs => exact PX.xt h x
theorem PoAB.xt {E : XK} {Q : List V → Hp → Prop} {r : R (List Sl)} (h : PoAB K E G H Q r) (x : Xt G H G1 H1) : PoAB K E G1 H1 Q r := by
  cases r with
  | val s => exact fun v H' G' y z => h v H' G' (x.trans y) z
  | ex C fs => exact PX.xt h x
variable {β : Type} {r : R β}
/-- a borrowed part -/
theorem useB {fa : Env → Option (R Sl)} {k : Sl → Option (R β)} (hs : SE K G H σ ρ F) (h : bnd (fa ρ) k = some r) (px : ∀ C fs, r = .ex C fs → PX K (E σ) G H C fs) {Q : VK}
    (ct : ∀ s v H1 G1, k s = some r → Xt G H G1 H1 → Bw K G1 H1 v s → Q v H1) : tFB K E fa σ H Q := by
  cases q : fa ρ with
  | none => rw [q] at h; cases h
  | some x =>
    rw [q] at h
    cases x with
    | val s => exact ⟨G, ρ, F, _, hs, q, fun v H' G' xt b => ct s v H' G' h xt b⟩
    | ex C fs => cases h; exact ⟨G, ρ, F, _, hs, q, px C fs rfl⟩
/-- a part of one's own -/
theorem useE {fa : Env → Option (R Sl)} {k : Sl → Option (R β)} (hs : SE K G H σ ρ F) (h : bnd (fa ρ) k = some r) (px : ∀ C fs, r = .ex C fs → PX K (E σ) G H C fs) {Q : VK}
    (ct : ∀ s v H1 G1, k s = some r → Xt G H G1 H1 → Ow K H G1 H1 v s → Q v H1) : tFE K E fa σ H Q := by
  cases q : fa ρ with
  | none => rw [q] at h; cases h
  | some x =>
    rw [q] at h
    cases x with
    | val s => exact ⟨G, ρ, F, _, hs, q, fun v H' G' xt b => ct s v H' G' h xt b⟩
    | ex C fs => cases h; exact ⟨G, ρ, F, _, hs, q, px C fs rfl⟩
/-- a part that is frozen at once -/
theorem useD {fa : Env → Option (R Sl)} {k : D → Option (R β)} (hs : SE K G H σ ρ F) (h : bnd (frD (fa ρ)) k = some r) (px : ∀ C fs, r = .ex C fs → PX K (E σ) G H C fs) {Q : VK}
    (ct : ∀ d v H1 G1, k d = some r → Xt G H G1 H1 → Rp K G1 v d → Q v H1) : tFE K E fa σ H Q := by
  have h' : bnd (fa ρ) (fun s => bnd (pur s.fr) k) = some r := by
    unfold frD at h
    cases q : fa ρ with
    | none => rw [q] at h; cases h
    | some x =>
      rw [q] at h
      cases x with
      | val s => exact h
      | ex C fs => exact h
  refine useE hs h' px fun s v H1 G1 hk x o => ?_
  cases q : s.fr with
  | none => rw [q] at hk; cases hk
  | some d =>
    rw [q] at hk
    obtain ⟨fp, rp, fr⟩ := o
    obtain ⟨G2, x2, _, r2⟩ := freeze x rp fr q
    exact ct d v H1 G2 hk x2 r2
theorem useT {fa : Env → Option (R Bool)} {k : Bool → Option (R β)} (hs : SE K G H σ ρ F) (h : bnd (fa ρ) k = some r) (px : ∀ C fs, r = .ex C fs → PX K (E σ) G H C fs) {Q : Bool → Hp → Prop}
    (ct : ∀ b H1 G1, k b = some r → Xt G H G1 H1 → Q b H1) : tFT K E fa σ H Q := by
  cases q : fa ρ with
  | none => rw [q] at h; cases h
  | some x =>
    rw [q] at h
    cases x with
    | val s => exact ⟨G, ρ, F, _, hs, q, fun H' G' xt => ct s H' G' h xt⟩
    | ex C fs => cases h; exact ⟨G, ρ, F, _, hs, q, px C fs rfl⟩
theorem useA {fa : Env → Option (R (List D))} {k : List D → Option (R β)} (hs : SE K G H σ ρ F) (h : bnd (fa ρ) k = some r) (px : ∀ C fs, r = .ex C fs → PX K (E σ) G H C fs) {Q : List V → Hp → Prop}
    (ct : ∀ ds vs H1 G1, k ds = some r → Xt G H G1 H1 → Rps K G1 vs ds → Q vs H1) : tFA K E fa σ H Q := by
  cases q : fa ρ with
  | none => rw [q] at h; cases h
  | some x =>
    rw [q] at h
    cases x with
    | val s => exact ⟨G, ρ, F, _, hs, q, fun v H' G' xt b => ct s v H' G' h xt b⟩
    | ex C fs => cases h; exact ⟨G, ρ, F, _, hs, q, px C fs rfl⟩
theorem useAB {fa : Env → Option (R (List Sl))} {k : List Sl → Option (R β)} (hs : SE K G H σ ρ F) (h : bnd (fa ρ) k = some r) (px : ∀ C fs, r = .ex C fs → PX K (E σ) G H C fs) {Q : List V → Hp → Prop}
    (ct : ∀ ds vs H1 G1, k ds = some r → Xt G H G1 H1 → All2 (Bw K G1 H1) vs ds → Q vs H1) : tFAB K E fa σ H Q := by
  cases q : fa ρ with
  | none => rw [q] at h; cases h
  | some x =>
    rw [q] at h
    cases x with
    | val s => exact ⟨G, ρ, F, _, hs, q, fun v H' G' xt b => ct s v H' G' h xt b⟩
    | ex C fs => cases h; exact ⟨G, ρ, F, _, hs, q, px C fs rfl⟩
end
/-- the wish of exceptions within a composite's post -/
theorem PoE.px {K : PySem.W.Frag} {E : XK} {G H : Hp} {Q : VK} {r : R Sl} (h : PoE K E G H Q r) : ∀ C fs, r = .ex C fs → PX K E G H C fs := fun _ _ e => by subst e; exact h
theorem PoB.px {K : PySem.W.Frag} {E : XK} {G H : Hp} {Q : VK} {r : R Sl} (h : PoB K E G H Q r) : ∀ C fs, r = .ex C fs → PX K E G H C fs := fun _ _ e => by subst e; exact h
theorem PoT.px {K : PySem.W.Frag} {E : XK} {G H : Hp} {Q : Bool → Hp → Prop} {r : R Bool} (h : PoT K E G H Q r) : ∀ C fs, r = .ex C fs → PX K E G H C fs := fun _ _ e => by subst e; exact h
theorem PoA.px {K : PySem.W.Frag} {E : XK} {G H : Hp} {Q : List V → Hp → Prop} {r : R (List D)} (h : PoA K E G H Q r) : ∀ C fs, r = .ex C fs → PX K E G H C fs := fun _ _ e => by subst e; exact h
theorem PoAB.px {K : PySem.W.Frag} {E : XK} {G H : Hp} {Q : List V → Hp → Prop} {r : R (List Sl)} (h : PoAB K E G H Q r) : ∀ C fs, r = .ex C fs → PX K E G H C fs := fun _ _ e => by subst e; exact h

/-! ### 7. names and constants -/
def fVar (i : Nat) : Env → Option (R Sl) := fun ρ => match ρ[i]? with
  | some (.fz d) => some (.val (.fz d))
  | _ => none
def fVarB (i : Nat) : Env → Option (R Sl) := fun ρ => match ρ[i]? with
  | some .un => none
  | some s => some (.val s)
  | none => none
def fC (d : D) : Env → Option (R Sl) := fun _ => some (.val (.fz d))
section
variable {X : Cx} {E : L2.St → XK}
theorem fe_var (i : Nat) {x : Str} {pos : Pos} (hN : X.N[i]? = some x := by rfl) (hv : Vis X.env.scope x := by first | exact Or.inl rfl | exact Or.inr (Or.inl rfl) | exact Or.inr (Or.inr rfl)) (hd : (x == ("__debug__" : Str)) = false := by decide)
    (hcd : (x == ("__classdict__" : Str)) = false := by decide) : FE X E (.Name x pos) (fVar i) := PE_le (pv i hN hv hd hcd) fun σ H Q h => by
  obtain ⟨G, ρ, F, r, hs, hr, hp⟩ := h
  unfold fVar at hr
  split at hr
  · rename_i d e
    cases hr
    obtain ⟨o, h1, _, v, rfl, h3⟩ := hs.sl i _ e
    exact ⟨v, h1, hp v H G (.refl hs.gh) (.fz h3)⟩
  · cases hr
theorem fb_var (i : Nat) {x : Str} {pos : Pos} (hN : X.N[i]? = some x := by rfl) (hv : Vis X.env.scope x := by first | exact Or.inl rfl | exact Or.inr (Or.inl rfl) | exact Or.inr (Or.inr rfl)) (hd : (x == ("__debug__" : Str)) = false := by decide)
    (hcd : (x == ("__classdict__" : Str)) = false := by decide) : FB X E (.Name x pos) (fVarB i) := PE_le (pv i hN hv hd hcd) fun σ H Q h => by
  obtain ⟨G, ρ, F, r, hs, hr, hp⟩ := h
  unfold fVarB at hr
  split at hr
  · cases hr
  · rename_i s hn e
    cases hr
    obtain ⟨o, h1, h2⟩ := hs.sl i _ e
    have hv : ∃ v, o = some v := h2.isV (hn ·)
    obtain ⟨v, rfl⟩ := hv
    exact ⟨v, h1, hp v H G (.refl hs.gh) ⟨F i, h2, fun p hp => (hs.own i p hp).1⟩⟩
  · cases hr
theorem fe_c {e : Expr} {v : V} {d : D} (h : PE X e (tC v)) (r : ∀ G, Rp X.K G v d) : FE X E e (fC d) := PE_le h fun σ H Q hq => by
  obtain ⟨G, ρ, F, r', hs, hr, hp⟩ := hq
  cases hr
  exact hp v H G (.refl hs.gh) (.fz (r G))
theorem fe_int {i j pos} : FE X E (.Constant (.int i) j pos) (fC (.int i)) := fe_c pe_int fun _ => .int
theorem fe_bl {i j pos} : FE X E (.Constant (.bool i) j pos) (fC (.bl i)) := fe_c pe_bl fun _ => .bl
theorem fe_non {j pos} : FE X E (.Constant .none j pos) (fC .non) := fe_c pe_non fun _ => .non
theorem fe_str {x j pos} : FE X E (.Constant (.str x) j pos) (fC (.str x)) := fe_c pe_str fun _ => .str
theorem FE.b {e : Expr} {f : Env → Option (R Sl)} (h : FE X E e f) : FB X E e f := PE_le h fun σ H Q hq => by
  obtain ⟨G, ρ, F, r, hs, hr, hp⟩ := hq
  refine ⟨G, ρ, F, r, hs, hr, ?_⟩
  cases r with
  | val s => exact fun v H' G' x o => hp v H' G' x o.bw
  | ex C fs => exact hp
end

/-! ### 8. operators -/
/-- what is wanted of a value -/
def PoV (K : PySem.W.Frag) (G H : Hp) (Q : VK) (s : Sl) : Prop := ∀ v H' G', Xt G H G' H' → Ow K H G' H' v s → Q v H'
def OpOk (X : Cx) (f : Value → Value → Sem Value) (g : Sl → Sl → Option Sl) : Prop :=
  ∃ r, OpR X f r ∧ ∀ G H x y sx sy s Q, Same G H → Bw X.K G H x sx → Bw X.K G H y sy → g sx sy = some s → PoV X.K G H Q s → r x y H Q
def altG (g h : Sl → Sl → Option Sl) : Sl → Sl → Option Sl := fun x y => match g x y with | some s => some s | none => h x y
theorem OpOk.alt {X : Cx} {f : Value → Value → Sem Value} {g h : Sl → Sl → Option Sl} (a : OpOk X f g) (b : OpOk X f h) : OpOk X f (altG g h) := by
  obtain ⟨r, r1, r2⟩ := a
  obtain ⟨q, q1, q2⟩ := b
  refine ⟨_, r1.or q1, fun G H x y sx sy s Q gh bx bY e p => ?_⟩
  unfold altG at e
  split at e
  · rename_i s' e'; cases e; exact .inl (r2 G H x y sx sy _ Q gh bx bY e' p)
  · exact .inr (q2 G H x y sx sy _ Q gh bx bY e p)
def fOp (g : Sl → Sl → Option Sl) (fa fb : Env → Option (R Sl)) : Env → Option (R Sl) := fun ρ => bnd (fa ρ) fun x => bnd (fb ρ) fun y => pur (g x y)
def asB (r : Option (R Sl)) : Option (R Bool) := bnd r fun s => match s with | .fz (.bl b) => some (.val b) | _ => none
theorem pur_eq {α : Type} {o : Option α} {r : R α} (h : pur o = some r) : ∃ a, o = some a ∧ r = .val a := by
  cases o with
  | none => cases h
  | some a => cases h; exact ⟨a, rfl, rfl⟩
section
variable {X : Cx} {E : L2.St → XK} {a b c : Expr} {fa fb fc : Env → Option (R Sl)} {g : Sl → Sl → Option Sl} {pos : Pos}
theorem op_core {f : Value → Value → Sem Value} {r : R2} {g : Sl → Sl → Option Sl} (hg : ∀ G H x y sx sy s Q, Same G H → Bw X.K G H x sx → Bw X.K G H y sy → g sx sy = some s → PoV X.K G H Q s → r x y H Q)
    {σ H Q} (h : tFE X.K E (fOp g fa fb) σ H Q) : tOp r (tFB X.K E fa) (tFB X.K E fb) σ H Q := by
  obtain ⟨G, ρ, F, r, hs, hr, hp⟩ := h
  refine useB hs hr hp.px fun sx x H1 G1 h1 x1 bx => ?_
  refine useB (hs.xt x1) h1 (hp.xt x1).px fun sy y H2 G2 h2 x2 bY => ?_
  obtain ⟨s, e, rfl⟩ := pur_eq h2
  exact hg G2 H2 x y sx sy s Q x2.gh (bx.xt x2) bY e ((hp.xt x1).xt x2)
theorem fe_bin {op : Operator} (ho : OpOk X (binaryOp op) g) (ha : FB X E a fa) (hb : FB X E b fb) : FE X E (.BinOp a op b pos) (fOp g fa fb) := by
  obtain ⟨r, r1, r2⟩ := ho
  exact PE_le (pe_op r1 ha hb) fun σ H Q h => op_core (f := binaryOp op) r2 h
theorem fe_cmp {op : CmpOp} (ho : OpOk X (compareOp op) g) (ha : FB X E a fa) (hb : FB X E b fb) (hm : behindInMarks op b = false := by first | exact nobehind _ (by decide) (by decide) | rfl) : FE X E (.Compare a [op] [b] pos) (fOp g fa fb) := by
  obtain ⟨r, r1, r2⟩ := ho
  exact PE_le (pe_cmpR r1 ha hb hm) fun σ H Q h => op_core (f := compareOp op) r2 h
theorem asB_eq {r : Option (R Sl)} {x : R Bool} (h : asB r = some x) : (∃ b, r = some (.val (.fz (.bl b))) ∧ x = .val b) ∨ ∃ C fs, r = some (.ex C fs) ∧ x = .ex C fs := by
  unfold asB at h
  cases r with
  | none => cases h
  | some y =>
    cases y with
    | val s =>
      cases s with
      | fz d =>
        cases d with
        | bl b => cases h; exact .inl ⟨b, rfl, rfl⟩
        | _ => cases h
      | _ => cases h
    | ex C fs => cases h; exact .inr ⟨C, fs, rfl, rfl⟩
theorem test_core {K : PySem.W.Frag} {f : Env → Option (R Sl)} {σ H Q} (h : tFT K E (fun ρ => asB (f ρ)) σ H Q) : tFE K E f σ H fun x H' => ∃ k, x = .bl k ∧ Q k H' := by
  obtain ⟨G, ρ, F, r, hs, hr, hp⟩ := h
  rcases asB_eq hr with ⟨b, e, rfl⟩ | ⟨C, fs, e, rfl⟩
  · exact ⟨G, ρ, F, _, hs, e, fun v H' G' x o => ⟨b, o.bw.inv_fz.inv_bl, hp H' G' x⟩⟩
  · exact ⟨G, ρ, F, _, hs, e, hp⟩
/-- a bool as a test -/
def fT (f : Env → Option (R Sl)) : Env → Option (R Bool) := fun ρ => asB (f ρ)
theorem ft_cmp {op : CmpOp} (ho : OpOk X (compareOp op) g) (ha : FB X E a fa) (hb : FB X E b fb) (hm : behindInMarks op b = false := by first | exact nobehind _ (by decide) (by decide) | rfl) : FT X E (.Compare a [op] [b] pos) (fT (fOp g fa fb)) := by
  obtain ⟨r, r1, r2⟩ := ho
  refine PT_le (pt_cmpR r1 ha hb hm) fun σ H Q h => ?_
  exact op_core (f := compareOp op) r2 (test_core h)
theorem ft_val (h : FE X E a fa) (he : ∀ whole, isTrue a X.env whole = (do let v ← whole; standAt a.pos; holding [v] (truthy v)) := by intro _; rfl) : FT X E a (fT fa) :=
  PT_le (pt_val h he) fun σ H Q h => test_core h
/-- and, or, not -/
def fAnd (f g : Env → Option (R Bool)) : Env → Option (R Bool) := fun ρ => bnd (f ρ) fun b => if b = true then g ρ else some (.val false)
def fOr (f g : Env → Option (R Bool)) : Env → Option (R Bool) := fun ρ => bnd (f ρ) fun b => if b = true then some (.val true) else g ρ
def fNot (f : Env → Option (R Bool)) : Env → Option (R Bool) := fun ρ => bnd (f ρ) fun b => some (.val (!b))
variable {ta tb : Env → Option (R Bool)} {rest : List Expr}
theorem fw_and1 (h : FT X E a ta) : FW X E (.BoolOp .And [a] pos) ta := pw_and1 h
theorem fw_or1 (h : FT X E a ta) : FW X E (.BoolOp .Or [a] pos) ta := pw_or1 h
theorem FW.t {e : Expr} (h : FW X E e ta) : FT X E e ta := PW.pt h
theorem fw_and (h : FT X E a ta) (h2 : FW X E (.BoolOp .And (b :: rest) pos) tb) : FW X E (.BoolOp .And (a :: b :: rest) pos) (fAnd ta tb) := PW_le (pw_and h h2) fun σ H Q q => by
  obtain ⟨G, ρ, F, r, hs, hr, hp⟩ := q
  refine useT hs hr hp.px fun k H1 G1 h1 x1 => ?_
  cases k with
  | true => rw [if_pos rfl] at h1 ⊢; exact ⟨G1, ρ, F, r, hs.xt x1, h1, hp.xt x1⟩
  | false => rw [if_neg Bool.false_ne_true] at h1 ⊢; cases h1; exact hp H1 G1 x1
theorem fw_or (h : FT X E a ta) (h2 : FW X E (.BoolOp .Or (b :: rest) pos) tb) : FW X E (.BoolOp .Or (a :: b :: rest) pos) (fOr ta tb) := PW_le (pw_or h h2) fun σ H Q q => by
  obtain ⟨G, ρ, F, r, hs, hr, hp⟩ := q
  refine useT hs hr hp.px fun k H1 G1 h1 x1 => ?_
  cases k with
  | true => rw [if_pos rfl] at h1 ⊢; cases h1; exact hp H1 G1 x1
  | false => rw [if_neg Bool.false_ne_true] at h1 ⊢; exact ⟨G1, ρ, F, r, hs.xt x1, h1, hp.xt x1⟩
theorem ft_not (h : FT X E a ta) : FT X E (.UnaryOp .Not a pos) (fNot ta) := PT_le (pt_not h) fun σ H Q q => by
  obtain ⟨G, ρ, F, r, hs, hr, hp⟩ := q
  refine useT hs hr hp.px fun k H1 G1 h1 x1 => ?_
  cases h1; exact hp H1 G1 x1
/-- the same as values -/
def fBl (f : Env → Option (R Bool)) : Env → Option (R Sl) := fun ρ => bnd (f ρ) fun b => some (.val (.fz (.bl b)))
theorem fBl_eq {f : Env → Option (R Bool)} {ρ : Env} {r : R Sl} (h : fBl f ρ = some r) : (∃ b, f ρ = some (.val b) ∧ r = .val (.fz (.bl b))) ∨ ∃ C fs, f ρ = some (.ex C fs) ∧ r = .ex C fs := by
  unfold fBl at h
  cases q : f ρ with
  | none => rw [q] at h; cases h
  | some y =>
    rw [q] at h
    cases y with
    | val s => cases h; exact .inl ⟨s, rfl, rfl⟩
    | ex C fs => cases h; exact .inr ⟨C, fs, rfl, rfl⟩
theorem fe_one {op} (h : FE X E a fa) : FE X E (.BoolOp op [a] pos) fa := pe_one h
def fAndV (f g : Env → Option (R Sl)) : Env → Option (R Sl) := fun ρ => bnd (asB (f ρ)) fun b => if b = true then g ρ else some (.val (.fz (.bl false)))
def fOrV (f g : Env → Option (R Sl)) : Env → Option (R Sl) := fun ρ => bnd (asB (f ρ)) fun b => if b = true then some (.val (.fz (.bl true))) else g ρ
def fNotV (f : Env → Option (R Sl)) : Env → Option (R Sl) := fun ρ => bnd (asB (f ρ)) fun b => some (.val (.fz (.bl (!b))))
theorem useTV {K : PySem.W.Frag} {β : Type} {r : R β} {fa : Env → Option (R Sl)} {k : Bool → Option (R β)} {G H : Hp} {σ : L2.St} {ρ : Env} {F : Nat → List Addr} (hs : SE K G H σ ρ F) (h : bnd (asB (fa ρ)) k = some r) (px : ∀ C fs, r = .ex C fs → PX K (E σ) G H C fs) {Q : VK}
    (ct : ∀ b H1 G1, k b = some r → Xt G H G1 H1 → Q (.bl b) H1) : tFE K E fa σ H Q := by
  cases q : asB (fa ρ) with
  | none => rw [q] at h; cases h
  | some x =>
    rw [q] at h
    rcases asB_eq q with ⟨b, e, rfl⟩ | ⟨C, fs, e, rfl⟩
    · exact ⟨G, ρ, F, _, hs, e, fun v H' G' xt o => by rw [o.bw.inv_fz.inv_bl]; exact ct b H' G' h xt⟩
    · cases h; exact ⟨G, ρ, F, _, hs, e, px C fs rfl⟩
theorem fe_and (h : FE X E a fa) (h2 : FE X E (.BoolOp .And (b :: rest) pos) fb) : FE X E (.BoolOp .And (a :: b :: rest) pos) (fAndV fa fb) := PE_le (pe_and h h2) fun σ H Q q => by
  obtain ⟨G, ρ, F, r, hs, hr, hp⟩ := q
  refine useTV hs hr hp.px fun k H1 G1 h1 x1 => ⟨k, rfl, ?_⟩
  cases k with
  | true => rw [if_pos rfl] at h1 ⊢; exact ⟨G1, ρ, F, r, hs.xt x1, h1, hp.xt x1⟩
  | false => rw [if_neg Bool.false_ne_true] at h1 ⊢; cases h1; exact hp _ H1 G1 x1 (.fz .bl)
theorem fe_or (h : FE X E a fa) (h2 : FE X E (.BoolOp .Or (b :: rest) pos) fb) : FE X E (.BoolOp .Or (a :: b :: rest) pos) (fOrV fa fb) := PE_le (pe_or h h2) fun σ H Q q => by
  obtain ⟨G, ρ, F, r, hs, hr, hp⟩ := q
  refine useTV hs hr hp.px fun k H1 G1 h1 x1 => ⟨k, rfl, ?_⟩
  cases k with
  | true => rw [if_pos rfl] at h1 ⊢; cases h1; exact hp _ H1 G1 x1 (.fz .bl)
  | false => rw [if_neg Bool.false_ne_true] at h1 ⊢; exact ⟨G1, ρ, F, r, hs.xt x1, h1, hp.xt x1⟩
theorem fe_not (h : FE X E a fa) : FE X E (.UnaryOp .Not a pos) (fNotV fa) := PE_le (pe_not h) fun σ H Q q => by
  obtain ⟨G, ρ, F, r, hs, hr, hp⟩ := q
  refine useTV hs hr hp.px fun k H1 G1 h1 x1 => ⟨k, rfl, ?_⟩
  cases h1; exact hp _ H1 G1 x1 (.fz .bl)
def fIf (t : Env → Option (R Bool)) (f g : Env → Option (R Sl)) : Env → Option (R Sl) := fun ρ => bnd (t ρ) fun b => if b = true then f ρ else g ρ
theorem fe_if {e : Expr} (ht : FT X E e ta) (h : FE X E a fa) (h2 : FE X E b fb) : FE X E (.IfExp e a b pos) (fIf ta fa fb) := PE_le (pe_ifExp ht h h2) fun σ H Q q => by
  obtain ⟨G, ρ, F, r, hs, hr, hp⟩ := q
  refine useT hs hr hp.px fun k H1 G1 h1 x1 => ?_
  cases k with
  | true => rw [if_pos rfl] at h1 ⊢; exact ⟨G1, ρ, F, r, hs.xt x1, h1, hp.xt x1⟩
  | false => rw [if_neg Bool.false_ne_true] at h1 ⊢; exact ⟨G1, ρ, F, r, hs.xt x1, h1, hp.xt x1⟩
/-- a < b < c -/
def fChain (g g' : Sl → Sl → Option Sl) (fa fb fc : Env → Option (R Sl)) : Env → Option (R Sl) := fun ρ => bnd (fa ρ) fun x => bnd (fb ρ) fun y =>
  match g x y with
  | some (.fz (.bl true)) => bnd (fc ρ) fun z => pur (g' y z)
  | some (.fz (.bl false)) => some (.val (.fz (.bl false)))
  | _ => none
end

/-! ### 9. the operators -/
def iOp (c : Int → Int → Prop) [∀ i j, Decidable (c i j)] (f : Int → Int → D) : Sl → Sl → Option Sl
  | .fz (.int i), .fz (.int j) => if c i j then some (.fz (f i j)) else none
  | _, _ => none
def iOp0 (f : Int → Int → D) : Sl → Sl → Option Sl
  | .fz (.int i), .fz (.int j) => some (.fz (f i j))
  | _, _ => none
section
variable {X : Cx}
theorem opOk_I {f : Value → Value → Sem Value} {c : Int → Int → Prop} [∀ i j, Decidable (c i j)] {C : Int → Int → Prop} {g : Int → Int → V} {gd : Int → Int → D} (h : OpR X f (rI C g)) (hc : ∀ i j, c i j → C i j) (hr : ∀ i j G, Rp X.K G (g i j) (gd i j)) : OpOk X f (iOp c gd) := by
  refine ⟨_, h, fun G H x y sx sy s Q gh bx bY e p => ?_⟩
  unfold iOp at e
  split at e
  · rename_i i j
    split at e
    · rename_i hcc
      cases e
      exact ⟨i, j, bx.inv_fz.inv_int, bY.inv_fz.inv_int, hc i j hcc, p _ H G (.refl gh) (.fz (hr i j G))⟩
    · cases e
  · cases e
theorem opOk_I0 {f : Value → Value → Sem Value} {g : Int → Int → V} {gd : Int → Int → D} (h : OpR X f (rI0 g)) (hr : ∀ i j G, Rp X.K G (g i j) (gd i j)) : OpOk X f (iOp0 gd) := by
  refine ⟨_, h, fun G H x y sx sy s Q gh bx bY e p => ?_⟩
  unfold iOp0 at e
  split at e
  · rename_i i j
    cases e
    exact ⟨i, j, bx.inv_fz.inv_int, bY.inv_fz.inv_int, p _ H G (.refl gh) (.fz (hr i j G))⟩
  · cases e
def cMul (i j : Int) : Prop := ((-(2 ^ 64) < i ∧ i < 2 ^ 64) ∨ (-(2 ^ 64) < j ∧ j < 2 ^ 64)) ∨ i.natAbs.log2 + j.natAbs.log2 < 1000000
instance (i j : Int) : Decidable (cMul i j) := by unfold cMul; exact inferInstance
def cDiv (_ j : Int) : Prop := 0 < j ∧ j.natAbs.log2 < 9000
instance (i j : Int) : Decidable (cDiv i j) := by unfold cDiv; exact inferInstance
def cMod (_ j : Int) : Prop := 0 < j
instance (i j : Int) : Decidable (cMod i j) := by unfold cMod; exact inferInstance
def cPow (i j : Int) : Prop := 0 ≤ j ∧ j ≤ 1000000 ∧ i.natAbs < 2 ^ 64
instance (i j : Int) : Decidable (cPow i j) := by unfold cPow; exact inferInstance
def cShr (_ j : Int) : Prop := 0 ≤ j
instance (i j : Int) : Decidable (cShr i j) := by unfold cShr; exact inferInstance
def oAdd := iOp0 fun i j => .int (i + j)
def oSub := iOp0 fun i j => .int (i - j)
def oMul := iOp cMul fun i j => .int (i * j)
def oDiv := iOp cDiv fun i j => .int (i / j)
def oMod := iOp cMod fun i j => .int (i % j)
def oPow := iOp cPow fun i j => .int (i ^ j.toNat)
def oShl := iOp cPow fun i j => .int (i * 2 ^ j.toNat)
def oShr := iOp cShr fun i j => .int (i / 2 ^ j.toNat)
def oAnd := iOp0 fun i j => .int (Builtin.bitAnd i j)
def oOr := iOp0 fun i j => .int (Builtin.bitOr i j)
def oXor := iOp0 fun i j => .int (Builtin.bitXor i j)
def oLt := iOp0 fun i j => .bl (decide (i < j))
def oLe := iOp0 fun i j => .bl (decide (i ≤ j))
def oGt := iOp0 fun i j => .bl (decide (j < i))
def oGe := iOp0 fun i j => .bl (decide (j ≤ i))
theorem ok_add : OpOk X (binaryOp .Add) oAdd := opOk_I0 op_add fun _ _ _ => .int
theorem ok_sub : OpOk X (binaryOp .Sub) oSub := opOk_I0 op_sub fun _ _ _ => .int
theorem ok_mul : OpOk X (binaryOp .Mult) oMul := by
  have h : OpR X (binaryOp .Mult) (rI (fun i j => CMul i j ∨ CMulW i j) fun i j => .int (i * j)) := by
    intro pins s σ H x y v u Q I rx ry q
    obtain ⟨i, j, e1, e2, c, q⟩ := q
    rcases c with c | c
    · exact op_mul pins s σ H x y v u Q I rx ry ⟨i, j, e1, e2, c, q⟩
    · exact op_mulW pins s σ H x y v u Q I rx ry ⟨i, j, e1, e2, c, q⟩
  exact opOk_I h (fun _ _ c => c) fun _ _ _ => .int
theorem ok_div : OpOk X (binaryOp .FloorDiv) oDiv := opOk_I op_fdivW (fun _ _ c => c) fun _ _ _ => .int
theorem ok_mod : OpOk X (binaryOp .Mod) oMod := opOk_I op_mod (fun _ _ c => c) fun _ _ _ => .int
theorem ok_pow : OpOk X (binaryOp .Pow) oPow := opOk_I op_pow (fun _ _ c => c) fun _ _ _ => .int
theorem ok_shl : OpOk X (binaryOp .LShift) oShl := opOk_I op_shl (fun _ _ c => c) fun _ _ _ => .int
theorem ok_shr : OpOk X (binaryOp .RShift) oShr := opOk_I op_shr (fun _ _ c => c) fun _ _ _ => .int
theorem ok_and : OpOk X (binaryOp .BitAnd) oAnd := opOk_I0 op_and fun _ _ _ => .int
theorem ok_or : OpOk X (binaryOp .BitOr) oOr := opOk_I0 op_or fun _ _ _ => .int
theorem ok_xor : OpOk X (binaryOp .BitXor) oXor := opOk_I0 op_xor fun _ _ _ => .int
theorem ok_lt : OpOk X (compareOp .Lt) oLt := opOk_I0 op_lt fun _ _ _ => .bl
theorem ok_le : OpOk X (compareOp .LtE) oLe := opOk_I0 op_le fun _ _ _ => .bl
theorem ok_gt : OpOk X (compareOp .Gt) oGt := opOk_I0 op_gt fun _ _ _ => .bl
theorem ok_ge : OpOk X (compareOp .GtE) oGe := opOk_I0 op_ge fun _ _ _ => .bl
/-- == of scalars -/
def eqS : D → D → Option Bool
  | .int i, .int j => some (decide (i = j))
  | .bl i, .bl j => some (decide (i = j))
  | .str i, .str j => some (decide (i = j))
  | .non, .non => some true
  | .non, .int _ => some false
  | .int _, .non => some false
  | .non, .bl _ => some false
  | .bl _, .non => some false
  | .non, .str _ => some false
  | .str _, .non => some false
  | _, _ => none
def oEqS : Sl → Sl → Option Sl
  | .fz x, .fz y => (eqS x y).map fun b => .fz (.bl b)
  | _, _ => none
def oNeS : Sl → Sl → Option Sl
  | .fz x, .fz y => (eqS x y).map fun b => .fz (.bl (!b))
  | _, _ => none
theorem eqS_ok {K : PySem.W.Frag} {G : Hp} {x y : V} {d e : D} {b : Bool} (h : eqS d e = some b) (rx : Rp K G x d) (ry : Rp K G y e) : scal x y = true ∧ decide (x = y) = b := by
  cases rx <;> cases ry <;> first | (cases h; done) | (cases h; refine ⟨rfl, ?_⟩; simp)
theorem ok_eqS : OpOk X (compareOp .Eq) oEqS := by
  refine ⟨_, op_eq, fun G H x y sx sy s Q gh bx bY e p => ?_⟩
  unfold oEqS at e
  split at e
  · rename_i d d'
    cases q : eqS d d' with
    | none => rw [q] at e; cases e
    | some b =>
      rw [q] at e; cases e
      obtain ⟨a1, a2⟩ := eqS_ok q bx.inv_fz bY.inv_fz
      exact ⟨a1, p _ H G (.refl gh) (.fz (by rw [a2]; exact .bl))⟩
  · cases e
theorem ok_neS : OpOk X (compareOp .NotEq) oNeS := by
  refine ⟨_, op_ne, fun G H x y sx sy s Q gh bx bY e p => ?_⟩
  unfold oNeS at e
  split at e
  · rename_i d d'
    cases q : eqS d d' with
    | none => rw [q] at e; cases e
    | some b =>
      rw [q] at e; cases e
      obtain ⟨a1, a2⟩ := eqS_ok q bx.inv_fz bY.inv_fz
      exact ⟨a1, p _ H G (.refl gh) (.fz (by rw [a2]; exact .bl))⟩
  · cases e
end
end FN

set_option Elab.async false
set_option linter.all false
set_option maxRecDepth 100000
set_option maxHeartbeats 1000000
/-! FN, part C: None, in, ==, subscripts, lengths, fields, arguments, calls. -/
namespace FN
open PySem PySem.Spec PyProof.Rows L2

section
variable {X : Cx} {E : L2.St → XK} {a b c : Expr} {fa fb fc : Env → Option (R Sl)} {g g' : Sl → Sl → Option Sl} {pos : Pos}
theorem chain_core {f f' : Value → Value → Sem Value} {r r' : R2} (hg : ∀ G H x y sx sy s Q, Same G H → Bw X.K G H x sx → Bw X.K G H y sy → g sx sy = some s → PoV X.K G H Q s → r x y H Q)
    (hg' : ∀ G H x y sx sy s Q, Same G H → Bw X.K G H x sx → Bw X.K G H y sy → g' sx sy = some s → PoV X.K G H Q s → r' x y H Q)
    {σ H Q} (h : tFE X.K E (fChain g g' fa fb fc) σ H Q) : tChain r r' (tFB X.K E fa) (tFB X.K E fb) (tFB X.K E fc) σ H Q := by
  obtain ⟨G, ρ, F, r, hs, hr, hp⟩ := h
  refine useB hs hr hp.px fun sx x H1 G1 h1 x1 bx => ?_
  refine useB (hs.xt x1) h1 (hp.xt x1).px fun sy y H2 G2 h2 x2 bY => ?_
  have p2 := (hp.xt x1).xt x2
  cases q : g sx sy with
  | none => rw [q] at h2; cases h2
  | some s =>
    rw [q] at h2
    refine hg G2 H2 x y sx sy s _ x2.gh (bx.xt x2) bY q fun v H3 G3 x3 o => ?_
    split at h2
    · rename_i e; cases e
      refine ⟨true, o.bw.inv_fz.inv_bl, ?_⟩
      rw [if_pos rfl]
      refine useB (((hs.xt x1).xt x2).xt x3) h2 (p2.xt x3).px fun sz z H4 G4 h4 x4 bZ => ?_
      obtain ⟨s', e', rfl⟩ := pur_eq h4
      exact hg' G4 H4 y z sy sz s' Q x4.gh ((bY.xt x3).xt x4) bZ e' ((p2.xt x3).xt x4)
    · rename_i e; cases e
      refine ⟨false, o.bw.inv_fz.inv_bl, ?_⟩
      rw [if_neg Bool.false_ne_true]
      cases h2
      exact p2 _ H3 G3 x3 (.fz .bl)
    · cases h2
theorem fe_chain {op op' : CmpOp} (ho : OpOk X (compareOp op) g) (ho' : OpOk X (compareOp op') g') (ha : FB X E a fa) (hb : FB X E b fb) (hc : FB X E c fc)
    (hm : lastMarks [op, op'] [b, c] = false := by with_unfolding_all rfl) : FE X E (.Compare a [op, op'] [b, c] pos) (fChain g g' fa fb fc) := by
  obtain ⟨r, r1, r2⟩ := ho
  obtain ⟨q, q1, q2⟩ := ho'
  exact PE_le (pe_chain r1 q1 ha hb hc hm) fun σ H Q h => chain_core (f := compareOp op) (f' := compareOp op') r2 q2 h
theorem ft_chain {op op' : CmpOp} (ho : OpOk X (compareOp op) g) (ho' : OpOk X (compareOp op') g') (ha : FB X E a fa) (hb : FB X E b fb) (hc : FB X E c fc)
    (hm : lastMarks [op, op'] [b, c] = false := by with_unfolding_all rfl) : FT X E (.Compare a [op, op'] [b, c] pos) (fT (fChain g g' fa fb fc)) := by
  obtain ⟨r, r1, r2⟩ := ho
  obtain ⟨q, q1, q2⟩ := ho'
  exact PT_le (pt_chain r1 q1 ha hb hc hm) fun σ H Q h => chain_core (f := compareOp op) (f' := compareOp op') r2 q2 (test_core h)
end

/-! ### 10. None -/
def isNonS : Sl → Option Bool
  | .un => none
  | .fz .non => some true
  | .fz (.cls _) => none
  | _ => some false
def oIs : Sl → Sl → Option Sl
  | s, .fz .non => (isNonS s).map fun b => .fz (.bl b)
  | _, _ => none
def oIsNot : Sl → Sl → Option Sl
  | s, .fz .non => (isNonS s).map fun b => .fz (.bl (!b))
  | _, _ => none
theorem isNonS_ok {K : PySem.W.Frag} {G H : Hp} {v : V} {s : Sl} {b : Bool} (h : isNonS s = some b) (bw : Bw K G H v s) : decide (v = .non) = b := by
  obtain ⟨fp, r, _⟩ := bw
  cases s with
  | un => cases h
  | fz d =>
    obtain ⟨_, w, e, r⟩ := r
    cases e
    cases r <;> first | (cases h; done) | (cases h; simp)
  | oL d => obtain ⟨p, vs, _, e, _⟩ := r; cases e; cases h; simp
  | oK d => obtain ⟨p, vs, _, e, _⟩ := r; cases e; cases h; simp
  | oT d => obtain ⟨p, vs, _, e, _⟩ := r; cases e; cases h; simp
  | oLL d => obtain ⟨p, vs, _, e, _⟩ := r; cases e; cases h; simp
  | oI p C d => obtain ⟨dx, vs, _, e, _⟩ := r; cases e; cases h; simp
section
variable {X : Cx}
theorem ok_is : OpOk X (compareOp .Is) oIs := by
  refine ⟨_, op_isN, fun G H x y sx sy s Q gh bx bY e p => ?_⟩
  unfold oIs at e
  split at e
  · cases q : isNonS sx with
    | none => rw [q] at e; cases e
    | some b =>
      rw [q] at e; cases e
      exact ⟨bY.inv_fz.inv_non, p _ H G (.refl gh) (.fz (by rw [isNonS_ok q bx]; exact .bl))⟩
  · cases e
theorem ok_isNot : OpOk X (compareOp .IsNot) oIsNot := by
  refine ⟨_, op_notN, fun G H x y sx sy s Q gh bx bY e p => ?_⟩
  unfold oIsNot at e
  split at e
  · cases q : isNonS sx with
    | none => rw [q] at e; cases e
    | some b =>
      rw [q] at e; cases e
      exact ⟨bY.inv_fz.inv_non, p _ H G (.refl gh) (.fz (by rw [isNonS_ok q bx]; exact .bl))⟩
  · cases e
end

/-! ### 11. sequences, dicts -/
/-- the items of a list -/
def lstOf : Sl → Option (List D)
  | .fz (.lst ds) => some ds
  | .fz (.scr ds) => some ds
  | .oL ds => some ds
  | .oLL xss => some (xss.map D.lst)
  | _ => none
def seqOf : Sl → Option (List D)
  | .fz (.tup ds) => some ds
  | s => lstOf s
section
variable {K : PySem.W.Frag} {G H : Hp} {v : V} {s : Sl} {ds : List D}
theorem lst_len (h : lstOf s = some ds) (b : Bw K G H v s) (gh : Same G H) : ∃ p vs, v = .ref p ∧ SqL K H p vs ∧ vs.length = ds.length := by
  obtain ⟨fp, r, _⟩ := b
  cases s with
  | un => cases h
  | fz d =>
    obtain ⟨_, w, e, r⟩ := r
    cases e
    cases d with
    | lst xs => cases h; obtain ⟨p, vs, rfl, e, t⟩ := r.inv_lst; exact ⟨p, vs, rfl, .of (gh _ _ e), t.1⟩
    | scr xs => cases h; obtain ⟨p, vs, rfl, e, t⟩ := r.inv_scr; exact ⟨p, vs, rfl, gh.seq e, t.1⟩
    | _ => cases h
  | oL d => obtain ⟨p, vs, _, e, h1, t⟩ := r; cases e; cases h; exact ⟨p, vs, rfl, .of h1, t.1⟩
  | oK d => cases h
  | oT d => cases h
  | oLL d => obtain ⟨p, cs, _, e, h1, _, t⟩ := r; cases e; cases h; exact ⟨p, _, rfl, .of h1, by simp [t.1]⟩
  | oI p C d => cases h
/-- the items themselves, where they are frozen -/
def lstZ : Sl → Option (List D)
  | .fz (.lst ds) => some ds
  | .fz (.scr ds) => some ds
  | .oL ds => some ds
  | _ => none
theorem lst_items (h : lstZ s = some ds) (b : Bw K G H v s) (gh : Same G H) : ∃ p vs, v = .ref p ∧ SqL K H p vs ∧ Rps K G vs ds := by
  obtain ⟨fp, r, _⟩ := b
  cases s with
  | un => cases h
  | fz d =>
    obtain ⟨_, w, e, r⟩ := r
    cases e
    cases d with
    | lst xs => cases h; obtain ⟨p, vs, rfl, e, t⟩ := r.inv_lst; exact ⟨p, vs, rfl, .of (gh _ _ e), t⟩
    | scr xs => cases h; obtain ⟨p, vs, rfl, e, t⟩ := r.inv_scr; exact ⟨p, vs, rfl, gh.seq e, t⟩
    | _ => cases h
  | oL d => obtain ⟨p, vs, _, e, h1, t⟩ := r; cases e; cases h; exact ⟨p, vs, rfl, .of h1, t⟩
  | oK d => cases h
  | oT d => cases h
  | oLL d => cases h
  | oI p C d => cases h
def seqZ : Sl → Option (List D)
  | .fz (.tup ds) => some ds
  | s => lstZ s
theorem seq_items (h : seqZ s = some ds) (b : Bw K G H v s) (gh : Same G H) : ∃ p vs, v = .ref p ∧ (SqL K H p vs ∨ SqT K H p vs) ∧ Rps K G vs ds := by
  unfold seqZ at h
  split at h
  · cases h
    obtain ⟨p, vs, rfl, e, t⟩ := b.inv_fz.inv_tup
    exact ⟨p, vs, rfl, .inr (.of (gh _ _ e)), t⟩
  · obtain ⟨p, vs, e, t, u⟩ := lst_items h b gh
    exact ⟨p, vs, e, .inl t, u⟩
end
/-- flat data: as flatV, eqV -/
def flatD : D → Bool
  | .non => true
  | .bl _ => true
  | .int _ => true
  | .str _ => true
  | _ => false
def eqFD : D → D → Bool
  | .non, .non => true
  | .bl a, .bl b => a == b
  | .bl a, .int b => (if a then 1 else 0) == b
  | .int a, .bl b => a == (if b then 1 else 0)
  | .int a, .int b => a == b
  | .str a, .str b => a == b
  | _, _ => false
def inFD (d : D) (ds : List D) : Bool := ds.any fun e => eqFD e d
section
variable {K : PySem.W.Frag} {G : Hp}
theorem flat_ok {v : V} {d : D} (r : Rp K G v d) (h : flatD d = true) : flatV v = true := by cases r <;> first | rfl | cases h
theorem eqF_ok {v w : V} {d e : D} (r : Rp K G v d) (q : Rp K G w e) (h : flatD d = true) (h2 : flatD e = true) : eqV v w = eqFD d e := by
  cases r <;> first | (cases q <;> first | rfl | (cases h2; done)) | (cases h; done)
theorem flat_all {ds : List D} {vs : List V} (r : Rps K G vs ds) (h : ds.all flatD = true) : vs.all flatV = true := by
  rw [List.all_eq_true] at h ⊢
  intro v hv
  obtain ⟨i, hi⟩ := List.getElem?_of_mem hv
  obtain ⟨d, hd, q⟩ := r.getL hi
  exact flat_ok q (h d (List.mem_of_getElem? hd))
theorem in_ok : ∀ {ds : List D} {vs : List V} {v : V} {d : D}, Rps K G vs ds → Rp K G v d → ds.all flatD = true → flatD d = true → inV v vs = inFD d ds
  | [], vs, v, d, r, _, _, _ => by rw [All2.nil_r r]; rfl
  | e :: ds, vs, v, d, r, q, h, h2 => by
    obtain ⟨x, rest, rfl, a, b⟩ := All2.cons_r r
    simp only [List.all_cons, Bool.and_eq_true] at h
    have ih := in_ok b q h.2 h2
    unfold inV inFD at *
    rw [List.any_cons, List.any_cons, ih, eqF_ok a q h.1 h2]
end
def oInL (neg : Bool) : Sl → Sl → Option Sl
  | .fz d, s => match seqZ s with
    | some ds => if flatD d = true ∧ ds.all flatD = true then some (.fz (.bl (if neg then !inFD d ds else inFD d ds))) else none
    | none => none
  | _, _ => none
section
variable {X : Cx}
theorem okIn_core {neg : Bool} {f : Value → Value → Sem Value} (ho : OpR X f (rIn X.K neg)) : OpOk X f (oInL neg) := by
  refine ⟨_, ho, fun G H x y sx sy s Q gh bx bY e p => ?_⟩
  unfold oInL at e
  split at e
  · rename_i d
    split at e
    · rename_i ds hq
      split at e
      · rename_i hf
        cases e
        obtain ⟨p', vs, rfl, t, r⟩ := seq_items hq bY gh
        have rx := bx.inv_fz
        refine ⟨p', vs, rfl, t, flat_ok rx hf.1, flat_all r hf.2, p _ H G (.refl gh) (.fz ?_)⟩
        rw [in_ok r rx hf.2 hf.1]; exact .bl
      · cases e
    · cases e
  · cases e
theorem ok_inL : OpOk X (compareOp .In) (oInL false) := okIn_core op_in_seq
theorem ok_notInL : OpOk X (compareOp .NotIn) (oInL true) := okIn_core op_notIn_seq
end
/-! dicts -/
def valG {κ β : Type} [DecidableEq κ] (kvs : List (κ × β)) (k : κ) : Option β := (kvs.find? fun kv => decide (kv.1 = k)).map (·.2)
theorem valG_nil {κ β : Type} [DecidableEq κ] {k : κ} : valG ([] : List (κ × β)) k = none := rfl
theorem valG_cons {κ β : Type} [DecidableEq κ] {k : κ} {p : κ × β} {r : List (κ × β)} : valG (p :: r) k = if p.1 = k then some p.2 else valG r k := by
  unfold valG
  rw [List.find?_cons]
  by_cases h : p.1 = k
  · simp [h]
  · simp [h]
theorem val_ok {κ : Type} [DecidableEq κ] {K : PySem.W.Frag} {G : Hp} (k : κ) : ∀ {ds : List (κ × D)} {vs : List (κ × V)}, RKV K G vs ds → (valG ds k = none ∧ valV vs k = none) ∨ ∃ d v, valG ds k = some d ∧ valV vs k = some v ∧ Rp K G v d
  | [], vs, r => by
    rw [All2.nil_r r]; exact .inl ⟨rfl, rfl⟩
  | e :: ds, vs, r => by
    obtain ⟨x, rest, rfl, a, b⟩ := All2.cons_r r
    have hx : valV (x :: rest) k = if x.1 = k then some x.2 else valV rest k := valG_cons
    rw [valG_cons, hx, a.1]
    by_cases h : e.1 = k
    · rw [if_pos h, if_pos h]; exact .inr ⟨_, _, rfl, rfl, a.2⟩
    · rw [if_neg h, if_neg h]; exact val_ok k b
/-- a dict's key -/
def keyD : D → Option Key
  | .int i => some (.inl i)
  | .str s => some (.inr s)
  | _ => none
def keysD : List D → Option (List Key)
  | [] => some []
  | d :: ds => match keyD d, keysD ds with
    | some k, some ks => some (k :: ks)
    | _, _ => none
theorem keyD_ok {K : PySem.W.Frag} {G : Hp} {v : V} {d : D} {k : Key} (r : Rp K G v d) (h : keyD d = some k) : v = kV k := by
  cases d <;> first | (cases h; done) | (cases h; first | exact r.inv_int | exact r.inv_str)
theorem keysD_ok {K : PySem.W.Frag} {G : Hp} : ∀ {ds : List D} {vs : List V} {ks : List Key}, Rps K G vs ds → keysD ds = some ks → vs = ks.map kV
  | [], vs, ks, r, h => by cases h; exact All2.nil_r r
  | d :: ds, vs, ks, r, h => by
    obtain ⟨x, rest, rfl, a, b⟩ := All2.cons_r r
    unfold keysD at h
    split at h
    · rename_i k ks' h1 h2
      cases h
      rw [keyD_ok a h1, keysD_ok b h2]; rfl
    · cases h
/-- what stands in a dict at a key (none: no such dict or key; some none: it is not there) -/
def dLook : Sl → D → Option (Option D)
  | .fz (.dK kvs), d => (keyD d).map (valG kvs)
  | .oK kvs, d => (keyD d).map (valG kvs)
  | .fz (.dT kvs), .tup ds => (keysD ds).map (valG kvs)
  | .oT kvs, .tup ds => (keysD ds).map (valG kvs)
  | _, _ => none
def RpO (K : PySem.W.Frag) (G : Hp) : Option V → Option D → Prop
  | none, none => True
  | some v, some d => Rp K G v d
  | _, _ => False
theorem rpO_of {κ : Type} [DecidableEq κ] {K : PySem.W.Frag} {G : Hp} {k : κ} {ds : List (κ × D)} {vs : List (κ × V)} (r : RKV K G vs ds) : RpO K G (valV vs k) (valG ds k) := by
  rcases val_ok k r with ⟨a, b⟩ | ⟨d, v, a, b, c⟩
  · rw [a, b]; trivial
  · rw [a, b]; exact c
theorem dLook_ok {K : PySem.W.Frag} {G H : Hp} {v y : V} {s : Sl} {d : D} {o : Option D} (gh : Same G H) (b : Bw K G H v s) (r : Rp K G y d) (h : dLook s d = some o) : ∃ a o', v = .ref a ∧ DGet H a y o' ∧ RpO K G o' o := by
  obtain ⟨fp, rs, _⟩ := b
  unfold dLook at h
  split at h
  · rename_i d' kvs
    cases q : keyD d with
    | none => rw [q] at h; cases h
    | some k =>
      rw [q] at h; cases h
      obtain ⟨_, w, e, rs⟩ := rs
      cases e
      obtain ⟨a, vs, rfl, e, t⟩ := rs.inv_dK
      rw [keyD_ok r q]
      exact ⟨a, _, rfl, DGet.k (gh _ _ e), rpO_of t⟩
  · rename_i d' kvs
    cases q : keyD d with
    | none => rw [q] at h; cases h
    | some k =>
      rw [q] at h; cases h
      obtain ⟨a, vs, _, e, e2, t⟩ := rs
      cases e
      rw [keyD_ok r q]
      exact ⟨a, _, rfl, DGet.k e2, rpO_of t⟩
  · rename_i kvs ds
    cases q : keysD ds with
    | none => rw [q] at h; cases h
    | some ks =>
      rw [q] at h; cases h
      obtain ⟨_, w, e, rs⟩ := rs
      cases e
      obtain ⟨a, vs, rfl, e, t⟩ := rs.inv_dT
      obtain ⟨b, ws, rfl, e3, t3⟩ := r.inv_tup
      have := keysD_ok t3 q
      subst this
      exact ⟨a, _, rfl, DGet.t (gh _ _ e) (gh _ _ e3), rpO_of t⟩
  · rename_i kvs ds
    cases q : keysD ds with
    | none => rw [q] at h; cases h
    | some ks =>
      rw [q] at h; cases h
      obtain ⟨a, vs, _, e, e2, t⟩ := rs
      cases e
      obtain ⟨b, ws, rfl, e3, t3⟩ := r.inv_tup
      have := keysD_ok t3 q
      subst this
      exact ⟨a, _, rfl, DGet.t e2 (gh _ _ e3), rpO_of t⟩
  · cases h
/-- PE of one of two readings -/
theorem PE_or {X : Cx} {e : Expr} {t t' : TE} (h : PE X e t) (h' : PE X e t') : PE X e (fun σ H Q => t σ H Q ∨ t' σ H Q) := ⟨fun pins s σ H Q I hw => by
  rcases hw with hw | hw
  · exact h.run pins s σ H Q I hw
  · exact h'.run pins s σ H Q I hw⟩
theorem PT_or {X : Cx} {e : Expr} {t t' : TT} (h : PT X e t) (h' : PT X e t') : PT X e (fun σ H Q => t σ H Q ∨ t' σ H Q) := ⟨fun pins s σ H Q I hw => by
  rcases hw with hw | hw
  · exact h.run pins s σ H Q I hw
  · exact h'.run pins s σ H Q I hw⟩
/-- k in d -/
def dIn (neg : Bool) : Sl → Sl → Option Sl
  | .fz d, s => (dLook s d).map fun o => .fz (.bl (if neg then !o.isSome else o.isSome))
  | _, _ => none
def fInD (neg : Bool) (fa fb : Env → Option (R Sl)) : Env → Option (R Sl) := fun ρ => bnd (fa ρ) fun x => bnd (fb ρ) fun y => pur (match oInL neg x y with | some s => some s | none => dIn neg x y)
theorem rpO_some {K : PySem.W.Frag} {G : Hp} {o : Option V} {o' : Option D} (h : RpO K G o o') : o.isSome = o'.isSome := by
  cases o <;> cases o' <;> first | rfl | exact h.elim
/-- a composite of two parts, by what is shown of their values -/
theorem two {K : PySem.W.Frag} {E : L2.St → XK} {fa fb : Env → Option (R Sl)} {g : Sl → Sl → Option Sl} {t : V → V → Hp → VK → Prop}
    (hg : ∀ G H x y sx sy s Q, Same G H → Bw K G H x sx → Bw K G H y sy → g sx sy = some s → PoV K G H Q s → t x y H Q) {σ H Q}
    (h : tFE K E (fun ρ => bnd (fa ρ) fun x => bnd (fb ρ) fun y => pur (g x y)) σ H Q) : tFB K E fa σ H fun x H1 => tFB K E fb σ H1 fun y H2 => t x y H2 Q := by
  obtain ⟨G, ρ, F, r, hs, hr, hp⟩ := h
  refine useB hs hr hp.px fun sx x H1 G1 h1 x1 bx => ?_
  refine useB (hs.xt x1) h1 (hp.xt x1).px fun sy y H2 G2 h2 x2 bY => ?_
  obtain ⟨s, e, rfl⟩ := pur_eq h2
  exact hg G2 H2 x y sx sy s Q x2.gh (bx.xt x2) bY e ((hp.xt x1).xt x2)
section
variable {X : Cx} {E : L2.St → XK} {a b c : Expr} {fa fb fc : Env → Option (R Sl)} {pos : Pos}
theorem din_core {neg : Bool} {K : PySem.W.Frag} {G H : Hp} {x y : V} {sx sy s : Sl} {Q : VK} (gh : Same G H) (bx : Bw K G H x sx) (bY : Bw K G H y sy) (e : dIn neg sx sy = some s) (p : PoV K G H Q s) :
    ∃ a o, y = .ref a ∧ DGet H a x o ∧ Q (.bl (if neg then !o.isSome else o.isSome)) H := by
  unfold dIn at e
  split at e
  · rename_i d
    cases q : dLook sy d with
    | none => rw [q] at e; cases e
    | some o =>
      rw [q] at e; cases e
      obtain ⟨a, o', rfl, g, r⟩ := dLook_ok gh bY bx.inv_fz q
      exact ⟨a, o', rfl, g, p _ H G (.refl gh) (.fz (by rw [rpO_some r]; exact .bl))⟩
  · cases e
theorem inL_core {neg : Bool} {K : PySem.W.Frag} {G H : Hp} {x y : V} {sx sy s : Sl} {Q : VK} (gh : Same G H) (bx : Bw K G H x sx) (bY : Bw K G H y sy) (e : oInL neg sx sy = some s) (p : PoV K G H Q s) : rIn K neg x y H Q := by
  unfold oInL at e
  split at e
  · rename_i d
    split at e
    · rename_i ds hq
      split at e
      · rename_i hf
        cases e
        obtain ⟨p', vs, rfl, t, r⟩ := seq_items hq bY gh
        have rx := bx.inv_fz
        refine ⟨p', vs, rfl, t, flat_ok rx hf.1, flat_all r hf.2, p _ H G (.refl gh) (.fz ?_)⟩
        rw [in_ok r rx hf.2 hf.1]; exact .bl
      · cases e
    · cases e
  · cases e
theorem in_core {neg : Bool} {K : PySem.W.Frag} {σ H Q} (h : tFE K E (fInD neg fa fb) σ H Q) :
    tFB K E fa σ H fun x H1 => tFB K E fb σ H1 fun y H2 => rIn K neg x y H2 Q ∨ ∃ a o, y = .ref a ∧ DGet H2 a x o ∧ Q (.bl (if neg then !o.isSome else o.isSome)) H2 :=
  two (g := fun x y => match oInL neg x y with | some s => some s | none => dIn neg x y) (t := fun x y H2 Q => rIn K neg x y H2 Q ∨ ∃ a o, y = .ref a ∧ DGet H2 a x o ∧ Q (.bl (if neg then !o.isSome else o.isSome)) H2) (fun G H x y sx sy s Q gh bx bY e p => by
    split at e
    · rename_i s' q
      cases e
      exact .inl (inL_core gh bx bY q p)
    · exact .inr (din_core gh bx bY e p)) h
theorem OpR_din (hu : X.A.units + 1 < cLine) : OpR X (compareOp .In) (fun x y H Q => rIn X.K false x y H Q ∨ ∃ a o, y = .ref a ∧ DGet H a x o ∧ Q (.bl o.isSome) H) :=
  op_in_seq.or fun pins s σ H x y v u Q I rx ry h => by
    obtain ⟨a, o, rfl, g, q⟩ := h
    cases ry
    exact d_in hu I g rx fun s' I' => ⟨.bl _, H, I', rfl, q⟩
theorem OpR_dnotin (hu : X.A.units + 1 < cLine) : OpR X (compareOp .NotIn) (fun x y H Q => rIn X.K true x y H Q ∨ ∃ a o, y = .ref a ∧ DGet H a x o ∧ Q (.bl (!o.isSome)) H) :=
  op_notIn_seq.or fun pins s σ H x y v u Q I rx ry h => by
    obtain ⟨a, o, rfl, g, q⟩ := h
    cases ry
    exact d_notIn hu I g rx fun s' I' => ⟨.bl _, H, I', rfl, q⟩
theorem fe_in (hu : X.A.units + 1 < cLine) (ha : FB X E a fa) (hb : FB X E b fb) (hm : behindInMarks .In b = false := by rfl) : FE X E (.Compare a [.In] [b] pos) (fInD false fa fb) :=
  PE_le (pe_cmpR (OpR_din hu) ha hb hm) fun σ H Q h => in_core h
theorem ft_in (hu : X.A.units + 1 < cLine) (ha : FB X E a fa) (hb : FB X E b fb) (hm : behindInMarks .In b = false := by rfl) : FT X E (.Compare a [.In] [b] pos) (fT (fInD false fa fb)) :=
  PT_le (pt_cmpR (OpR_din hu) ha hb hm) fun σ H Q h => in_core (test_core h)
theorem fe_notin (hu : X.A.units + 1 < cLine) (ha : FB X E a fa) (hb : FB X E b fb) (hm : behindInMarks .NotIn b = false := by rfl) : FE X E (.Compare a [.NotIn] [b] pos) (fInD true fa fb) :=
  PE_le (pe_cmpR (OpR_dnotin hu) ha hb hm) fun σ H Q h => in_core h
theorem ft_notin (hu : X.A.units + 1 < cLine) (ha : FB X E a fa) (hb : FB X E b fb) (hm : behindInMarks .NotIn b = false := by rfl) : FT X E (.Compare a [.NotIn] [b] pos) (fT (fInD true fa fb)) :=
  PT_le (pt_cmpR (OpR_dnotin hu) ha hb hm) fun σ H Q h => in_core (test_core h)
end

/-! ### 12. subscripts -/
/-- by a number, of a list, a tuple, a text -/
def ixQ : Sl → Sl → Option Sl
  | s, .fz (.int i) => match s with
    | .fz (.str z) => if z.length ≤ 1000000 then (atI z.cps.toList i).map fun c => .fz (.str ⟨#[c]⟩) else none
    | s => (seqZ s).bind fun ds => (atI ds i).map .fz
  | _, _ => none
/-- by a key, of a dict -/
def ixD : Sl → Sl → Option Sl
  | s, .fz d => match dLook s d with
    | some (some e) => some (.fz e)
    | _ => none
  | _, _ => none
def ixS : Sl → Sl → Option Sl := altG ixQ ixD
def fIx (fa fb : Env → Option (R Sl)) : Env → Option (R Sl) := fun ρ => bnd (fa ρ) fun x => bnd (fb ρ) fun y => pur (ixS x y)
theorem atI_all2 {α β : Type} {T : α → β → Prop} {xs : List α} {ys : List β} {i : Int} {y : β} (t : All2 T xs ys) (h : atI ys i = some y) : ∃ x, atI xs i = some x ∧ T x y := by
  unfold atI at *
  rw [t.1]
  cases q : ixN ys.length i with
  | none => rw [q] at h; cases h
  | some j =>
    rw [q] at h
    exact t.get (i := j) h
section
variable {X : Cx} {E : L2.St → XK} {a b c : Expr} {fa fb fc : Env → Option (R Sl)} {pos : Pos}
theorem ixQ_core {K : PySem.W.Frag} {G H : Hp} {x y : V} {sx sy s : Sl} {Q : VK} (gh : Same G H) (bx : Bw K G H x sx) (bY : Bw K G H y sy) (e : ixQ sx sy = some s) (p : PoV K G H Q s) : rIx K x y H Q := by
  unfold ixQ at e
  split at e
  · rename_i i
    have hy := bY.inv_fz.inv_int
    split at e
    · rename_i z
      split at e
      · rename_i hz
        cases q : atI z.cps.toList i with
        | none => rw [q] at e; cases e
        | some c =>
          rw [q] at e; cases e
          exact .inr (.inr ⟨z, i, c, bx.inv_fz.inv_str, hy, Nat.le_trans hz (by decide), q, p _ H G (.refl gh) (.fz .str)⟩)
      · cases e
    · cases q : seqZ sx with
      | none => rw [q] at e; cases e
      | some ds =>
        rw [q] at e
        cases q2 : atI ds i with
        | none => rw [Option.bind_some, q2] at e; cases e
        | some d =>
          rw [Option.bind_some, q2] at e; cases e
          obtain ⟨p', vs, rfl, t, r⟩ := seq_items q bx gh
          obtain ⟨v, h1, h2⟩ := atI_all2 r q2
          have q := p v H G (.refl gh) (.fz h2)
          rcases t with t | t
          · exact .inl ⟨p', vs, i, v, rfl, hy, t, h1, q⟩
          · exact .inr (.inl ⟨p', vs, i, v, rfl, hy, t, h1, q⟩)
  · cases e
theorem ixD_core {K : PySem.W.Frag} {G H : Hp} {x y : V} {sx sy s : Sl} {Q : VK} (gh : Same G H) (bx : Bw K G H x sx) (bY : Bw K G H y sy) (e : ixD sx sy = some s) (p : PoV K G H Q s) :
    ∃ a v, x = .ref a ∧ DGet H a y (some v) ∧ Q v H := by
  unfold ixD at e
  split at e
  · rename_i d
    split at e
    · rename_i d q
      cases e
      obtain ⟨a, o', rfl, g, r⟩ := dLook_ok gh bx bY.inv_fz q
      cases o' with
      | none => exact r.elim
      | some v => exact ⟨a, v, rfl, g, p v H G (.refl gh) (.fz r)⟩
    · cases e
  · cases e
theorem tFE_alt {K : PySem.W.Frag} {g h : Sl → Sl → Option Sl} {σ H Q} (w : tFE K E (fun ρ => bnd (fa ρ) fun x => bnd (fb ρ) fun y => pur (altG g h x y)) σ H Q) :
    tFE K E (fun ρ => bnd (fa ρ) fun x => bnd (fb ρ) fun y => pur (g x y)) σ H Q ∨ tFE K E (fun ρ => bnd (fa ρ) fun x => bnd (fb ρ) fun y => pur (h x y)) σ H Q := by
  obtain ⟨G, ρ, F, r, hs, hr, hp⟩ := w
  dsimp only at hr
  cases q1 : fa ρ with
  | none => rw [q1] at hr; cases hr
  | some x =>
    rw [q1] at hr
    cases x with
    | ex C fs => cases hr; exact .inl ⟨G, ρ, F, _, hs, by simp [q1], hp⟩
    | val sx =>
      rw [bnd_val] at hr
      cases q2 : fb ρ with
      | none => rw [q2] at hr; cases hr
      | some y =>
        rw [q2] at hr
        cases y with
        | ex C fs => cases hr; exact .inl ⟨G, ρ, F, _, hs, by simp [q1, q2], hp⟩
        | val sy =>
          rw [bnd_val] at hr
          unfold altG at hr
          cases q3 : g sx sy with
          | some s => rw [q3] at hr; cases hr; exact .inl ⟨G, ρ, F, _, hs, by simp [q1, q2, q3], hp⟩
          | none => rw [q3] at hr; exact .inr ⟨G, ρ, F, _, hs, by simp only [q1, q2, bnd_val]; exact hr, hp⟩
theorem fe_ix (hu : X.A.units + 1 < cLine) (ha : FB X E a fa) (hb : FB X E b fb) (hs : PlainIx b := by exact fun _ _ => rfl) : FE X E (.Subscript a b pos) (fIx fa fb) :=
  PE_le (PE_or (pe_ix (pos := pos) ix_seq ha hb hs) (pe_dget (pos := pos) hu ha hb hs)) fun σ H Q hw => by
    rcases tFE_alt hw with hw | hw
    · exact .inl (two (t := rIx X.K) (fun G H x y sx sy s Q gh bx bY e p => ixQ_core gh bx bY e p) hw)
    · exact .inr (two (t := fun x y H2 Q => ∃ a v, x = .ref a ∧ DGet H2 a y (some v) ∧ Q v H2) (fun G H x y sx sy s Q gh bx bY e p => ixD_core gh bx bY e p) hw)
end

/-! ### 13. arguments, lengths, built-in calls -/
def fNil {α : Type} : Env → Option (R (List α)) := fun _ => some (.val [])
def fCons (f : Env → Option (R Sl)) (g : Env → Option (R (List D))) : Env → Option (R (List D)) := fun ρ => bnd (frD (f ρ)) fun d => bnd (g ρ) fun ds => some (.val (d :: ds))
def fConsB (f : Env → Option (R Sl)) (g : Env → Option (R (List Sl))) : Env → Option (R (List Sl)) := fun ρ => bnd (f ρ) fun d => bnd (g ρ) fun ds => some (.val (d :: ds))
section
variable {X : Cx} {E : L2.St → XK} {e : Expr} {es : List Expr} {f : Env → Option (R Sl)} {pos p : Pos}
theorem fa_nil : FA X E [] fNil := PA_le pa_nil fun σ H Q h => by
  obtain ⟨G, ρ, F, r, hs, hr, hp⟩ := h
  cases hr
  exact hp [] H G (.refl hs.gh) All2.nil
theorem fab_nil : FAB X E [] fNil := PA_le pa_nil fun σ H Q h => by
  obtain ⟨G, ρ, F, r, hs, hr, hp⟩ := h
  cases hr
  exact hp [] H G (.refl hs.gh) All2.nil
theorem fa_cons {g : Env → Option (R (List D))} (h : FE X E e f) (t : FA X E es g) (hs : starEach (e :: es) X.env = (false, eval e X.env) :: starEach es X.env := by rfl) : FA X E (e :: es) (fCons f g) := PA_le (pa_cons h t hs) fun σ H Q q => by
  obtain ⟨G, ρ, F, r, hs, hr, hp⟩ := q
  refine useD hs hr hp.px fun d v H1 G1 h1 x1 rp => ?_
  refine useA (hs.xt x1) h1 (hp.xt x1).px fun ds vs H2 G2 h2 x2 rps => ?_
  cases h2
  exact hp _ H2 G2 (x1.trans x2) (All2.cons (rp.mono x2.g) rps)
theorem fab_cons {g : Env → Option (R (List Sl))} (h : FB X E e f) (t : FAB X E es g) (hs : starEach (e :: es) X.env = (false, eval e X.env) :: starEach es X.env := by rfl) : FAB X E (e :: es) (fConsB f g) := PA_le (pa_cons h t hs) fun σ H Q q => by
  obtain ⟨G, ρ, F, r, hs, hr, hp⟩ := q
  refine useB hs hr hp.px fun d v H1 G1 h1 x1 rp => ?_
  refine useAB (hs.xt x1) h1 (hp.xt x1).px fun ds vs H2 G2 h2 x2 rps => ?_
  cases h2
  exact hp _ H2 G2 (x1.trans x2) (All2.cons (rp.xt x2) rps)
/-- (a, b), [a, b] -/
def fTup (g : Env → Option (R (List D))) : Env → Option (R Sl) := fun ρ => bnd (g ρ) fun ds => if ds.length ≤ 100000 then some (.val (.fz (.tup ds))) else none
def fLst (g : Env → Option (R (List D))) : Env → Option (R Sl) := fun ρ => bnd (g ρ) fun ds => if ds.length ≤ 100000 then some (.val (.oL ds)) else none
theorem xt_new {G H : Hp} (gh : Same G H) {p : Addr} (hp : H p = none) (o : HO) : Xt G H (upd G p o) (upd H p o) := by
  have gp : G p = none := gh.free hp
  refine ⟨fun b u e => ?_, fun b u e => ?_, fun b u e => ?_, fun b hb => ?_⟩
  · rw [upd_ne (ne_of_none e gp)]; exact e
  · rw [upd_ne (ne_of_none e hp)]; exact e
  · by_cases q : b = p
    · subst q; rw [upd_same] at e ⊢; exact e
    · rw [upd_ne q] at e ⊢; exact gh b u e
  · exact upd_ne fun q => hb.ne (by rw [q]; exact hp)
theorem xt_newH {G H : Hp} (gh : Same G H) {p : Addr} (hp : H p = none) (o : HO) : Xt G H G (upd H p o) := by
  refine ⟨Same.refl G, fun b u e => ?_, fun b u e => ?_, fun b hb => rfl⟩
  · rw [upd_ne (ne_of_none e hp)]; exact e
  · rw [upd_ne (ne_of_none (gh b u e) hp)]; exact gh b u e
theorem sz_of {n : Nat} (h : n ≤ 100000) : n ≤ sizeLine := Nat.le_trans h (by decide)
theorem fe_tup {x1} {g : Env → Option (R (List D))} (h : FA X E es g) : FE X E (.Tuple es x1 pos) (fTup g) := PE_le (pe_tup h) fun σ H Q q => by
  obtain ⟨G, ρ, F, r, hs, hr, hp⟩ := q
  refine useA hs hr hp.px fun ds vs H1 G1 h1 x1 rps => ?_
  split at h1
  · rename_i hz
    cases h1
    refine ⟨by rw [rps.1]; exact sz_of hz, fun p np => hp _ _ _ (x1.trans (xt_new x1.gh np (.tup vs))) (.fz (rp_tup upd_same (Rps.mono rps (xt_new x1.gh np _).g)))⟩
  · cases h1
theorem fe_lst {g : Env → Option (R (List D))} (h : FA X E es g) : FE X E (.List es pos) (fLst g) := PE_le (pe_lst h) fun σ H Q q => by
  obtain ⟨G, ρ, F, r, hs, hr, hp⟩ := q
  refine useA hs hr hp.px fun ds vs H1 G1 h1 x1 rps => ?_
  split at h1
  · rename_i hz
    cases h1
    refine ⟨by rw [rps.1]; exact sz_of hz, fun p np => ?_⟩
    refine hp _ _ _ (x1.trans (xt_newH x1.gh np (.lst vs))) ⟨[p], ⟨p, vs, rfl, rfl, upd_same, rps⟩, fun q hq => ?_⟩
    simp at hq; subst hq
    exact ⟨x1.h.free np, x1.gh.free np⟩
  · cases h1
/-- built-in calls -/
def CallOk (X : Cx) (f : Value) (g : List Sl → Option Sl) : Prop :=
  ∃ r, CallR X f r ∧ ∀ G H vs ss s Q, Same G H → All2 (Bw X.K G H) vs ss → g ss = some s → PoV X.K G H Q s → r vs H Q
def fCB (g : List Sl → Option Sl) (fas : Env → Option (R (List Sl))) : Env → Option (R Sl) := fun ρ => bnd (fas ρ) fun ss => pur (g ss)
def altC (g h : List Sl → Option Sl) : List Sl → Option Sl := fun ss => match g ss with | some s => some s | none => h ss
theorem CallOk.alt {f : Value} {g h : List Sl → Option Sl} (a : CallOk X f g) (b : CallOk X f h) : CallOk X f (altC g h) := by
  obtain ⟨r, r1, r2⟩ := a
  obtain ⟨q, q1, q2⟩ := b
  refine ⟨_, CallR.or r1 q1, fun G H vs ss s Q gh bs e p => ?_⟩
  unfold altC at e
  split at e
  · rename_i s' e'; cases e; exact .inl (r2 G H vs ss _ Q gh bs e' p)
  · exact .inr (q2 G H vs ss _ Q gh bs e p)
theorem cb_core {K : PySem.W.Frag} {g : List Sl → Option Sl} {fas : Env → Option (R (List Sl))} {r : List V → Hp → VK → Prop} (hg : ∀ G H vs ss s Q, Same G H → All2 (Bw K G H) vs ss → g ss = some s → PoV K G H Q s → r vs H Q)
    {σ H Q} (h : tFE K E (fCB g fas) σ H Q) : tCB r (tFAB K E fas) σ H Q := by
  obtain ⟨G, ρ, F, r, hs, hr, hp⟩ := h
  refine useAB hs hr hp.px fun ss vs H1 G1 h1 x1 bs => ?_
  obtain ⟨s, e, rfl⟩ := pur_eq h1
  exact hg G1 H1 vs ss s Q x1.gh bs e (hp.xt x1)
theorem fe_cb {id : String} {x : Str} {g : List Sl → Option Sl} {fas : Env → Option (R (List Sl))} (hc : CallOk X (.builtin id) g) (hm : X.mg x = none) (hv : bootBuiltins x = some (.builtin id)) (ha : FAB X E (e :: es) fas) (hg : Gl X x := by rfl) (hn : x ≠ "__name__" := by decide) (hdb : (x == ("__debug__" : Str)) = false := by decide)
    (he : starEach (e :: es) X.env = (false, eval e X.env) :: starEach es X.env := by rfl) (hpl : (backTo pos (starEach es X.env)).any (·.1) = false := by rfl) : FE X E (.Call (.Name x p) (e :: es) [] pos) (fCB g fas) := by
  obtain ⟨r, r1, r2⟩ := hc
  exact PE_le (pe_callB r1 hg hm hv ha hn hdb he hpl) fun σ H Q h => cb_core r2 h
theorem fe_cbT {T : String} {x : Str} {g : List Sl → Option Sl} {fas : Env → Option (R (List Sl))} (hc : CallOk X (.type T) g) (hm : X.mg x = none) (hv : bootBuiltins x = some (.type T)) (ha : FAB X E (e :: es) fas) (hg : Gl X x := by rfl) (hn : x ≠ "__name__" := by decide) (hdb : (x == ("__debug__" : Str)) = false := by decide)
    (he : starEach (e :: es) X.env = (false, eval e X.env) :: starEach es X.env := by rfl) (hpl : (backTo pos (starEach es X.env)).any (·.1) = false := by rfl) : FE X E (.Call (.Name x p) (e :: es) [] pos) (fCB g fas) := by
  obtain ⟨r, r1, r2⟩ := hc
  exact PE_le (pe_callTy r1 hg hm hv ha hn hdb he hpl) fun σ H Q h => cb_core r2 h
end
end FN

set_option Elab.async false
set_option linter.all false
set_option maxRecDepth 100000
set_option maxHeartbeats 1000000
/-! FN, part D: the built-ins, fields, slices, calls of own defs. -/
namespace FN
open PySem PySem.Spec PyProof.Rows L2

/-! ### 14. built-ins -/
def asInts : List D → Option (List Int)
  | [] => some []
  | .int i :: ds => (asInts ds).map (i :: ·)
  | _ => none
def asBls : List D → Option (List Bool)
  | [] => some []
  | .bl i :: ds => (asBls ds).map (i :: ·)
  | _ => none
@[simp] theorem asInts_map (ns : List Int) : asInts (ns.map D.int) = some ns := by
  induction ns with
  | nil => rfl
  | cons a t ih => simp [asInts, ih]
@[simp] theorem asBls_map (ns : List Bool) : asBls (ns.map D.bl) = some ns := by
  induction ns with
  | nil => rfl
  | cons a t ih => simp [asBls, ih]
theorem asInts_eq : ∀ {ds : List D} {ns : List Int}, asInts ds = some ns → ds = ns.map D.int
  | [], ns, h => by cases h; rfl
  | d :: ds, ns, h => by
    cases d with
    | int i =>
      unfold asInts at h
      cases q : asInts ds with
      | none => rw [q] at h; cases h
      | some ms => rw [q] at h; cases h; rw [asInts_eq q]; rfl
    | _ => cases h
theorem asBls_eq : ∀ {ds : List D} {ns : List Bool}, asBls ds = some ns → ds = ns.map D.bl
  | [], ns, h => by cases h; rfl
  | d :: ds, ns, h => by
    cases d with
    | bl i =>
      unfold asBls at h
      cases q : asBls ds with
      | none => rw [q] at h; cases h
      | some ms => rw [q] at h; cases h; rw [asBls_eq q]; rfl
    | _ => cases h
def minI : List Int → Option Int
  | [] => none
  | a :: r => some (r.foldl min a)
def maxI : List Int → Option Int
  | [] => none
  | a :: r => some (r.foldl max a)
theorem foldl_min_le : ∀ (r : List Int) (a : Int), r.foldl min a ≤ a ∧ ∀ y ∈ r, r.foldl min a ≤ y
  | [], a => ⟨Int.le_refl _, fun y h => by simp at h⟩
  | b :: r, a => by
    obtain ⟨h1, h2⟩ := foldl_min_le r (min a b)
    refine ⟨Int.le_trans h1 (Int.min_le_left a b), fun y hy => ?_⟩
    rcases List.mem_cons.mp hy with rfl | hy
    · exact Int.le_trans h1 (Int.min_le_right a _)
    · exact h2 y hy
theorem foldl_min_mem : ∀ (r : List Int) (a : Int), r.foldl min a = a ∨ r.foldl min a ∈ r
  | [], a => .inl rfl
  | b :: r, a => by
    rcases foldl_min_mem r (min a b) with h | h
    · by_cases hab : a ≤ b
      · left; show r.foldl min (min a b) = a; rw [h, Int.min_def, if_pos hab]
      · right; show r.foldl min (min a b) ∈ b :: r; rw [h, Int.min_def, if_neg hab]; exact List.mem_cons_self ..
    · right; exact List.mem_cons_of_mem _ h
theorem foldl_max_le : ∀ (r : List Int) (a : Int), a ≤ r.foldl max a ∧ ∀ y ∈ r, y ≤ r.foldl max a
  | [], a => ⟨Int.le_refl _, fun y h => by simp at h⟩
  | b :: r, a => by
    obtain ⟨h1, h2⟩ := foldl_max_le r (max a b)
    refine ⟨Int.le_trans (Int.le_max_left a b) h1, fun y hy => ?_⟩
    rcases List.mem_cons.mp hy with rfl | hy
    · exact Int.le_trans (Int.le_max_right a _) h1
    · exact h2 y hy
theorem foldl_max_mem : ∀ (r : List Int) (a : Int), r.foldl max a = a ∨ r.foldl max a ∈ r
  | [], a => .inl rfl
  | b :: r, a => by
    rcases foldl_max_mem r (max a b) with h | h
    · by_cases hab : a ≤ b
      · right; show r.foldl max (max a b) ∈ b :: r; rw [h, Int.max_def, if_pos hab]; exact List.mem_cons_self ..
      · left; show r.foldl max (max a b) = a; rw [h, Int.max_def, if_neg hab]
    · right; exact List.mem_cons_of_mem _ h
theorem minI_ok {ns : List Int} {m : Int} (h : minI ns = some m) : 0 < ns.length ∧ m ∈ ns ∧ ∀ y ∈ ns, m ≤ y := by
  cases ns with
  | nil => cases h
  | cons a r =>
    cases h
    obtain ⟨h1, h2⟩ := foldl_min_le r a
    refine ⟨by simp, ?_, fun y hy => ?_⟩
    · rcases foldl_min_mem r a with h | h
      · rw [h]; exact List.mem_cons_self ..
      · exact List.mem_cons_of_mem _ h
    · rcases List.mem_cons.mp hy with rfl | hy
      · exact h1
      · exact h2 y hy
theorem maxI_ok {ns : List Int} {m : Int} (h : maxI ns = some m) : 0 < ns.length ∧ m ∈ ns ∧ ∀ y ∈ ns, y ≤ m := by
  cases ns with
  | nil => cases h
  | cons a r =>
    cases h
    obtain ⟨h1, h2⟩ := foldl_max_le r a
    refine ⟨by simp, ?_, fun y hy => ?_⟩
    · rcases foldl_max_mem r a with h | h
      · rw [h]; exact List.mem_cons_self ..
      · exact List.mem_cons_of_mem _ h
    · rcases List.mem_cons.mp hy with rfl | hy
      · exact h1
      · exact h2 y hy
def lenS : Sl → Option Int
  | .fz (.str z) => if z.length ≤ 1000000 then some (z.length : Int) else none
  | .fz (.tup ds) => some (ds.length : Int)
  | .fz (.dK kvs) => some (kvs.length : Int)
  | .oK kvs => some (kvs.length : Int)
  | .fz (.dT kvs) => some (kvs.length : Int)
  | .oT kvs => some (kvs.length : Int)
  | s => (lstOf s).map fun ds => (ds.length : Int)
def gLen : List Sl → Option Sl
  | [s] => (lenS s).map fun n => .fz (.int n)
  | _ => none
def gInts (f : List Int → Option Int) : List Sl → Option Sl
  | [s] => ((lstZ s).bind asInts).bind fun ns => (f ns).map fun n => .fz (.int n)
  | _ => none
def gSum := gInts fun ns => some ns.sum
def gMin := gInts minI
def gMax := gInts maxI
def gBls (f : List Bool → Bool) : List Sl → Option Sl
  | [s] => ((lstZ s).bind asBls).map fun bs => .fz (.bl (f bs))
  | _ => none
def gAny := gBls fun bs => bs.any id
def gAll := gBls fun bs => bs.all id
def gAbs : List Sl → Option Sl
  | [.fz (.int i)] => some (.fz (.int (if i < 0 then -i else i)))
  | _ => none
def gMin2 : List Sl → Option Sl
  | [.fz (.int i), .fz (.int j)] => some (.fz (.int (if j < i then j else i)))
  | _ => none
def gMax2 : List Sl → Option Sl
  | [.fz (.int i), .fz (.int j)] => some (.fz (.int (if j > i then j else i)))
  | _ => none
def gInt : List Sl → Option Sl
  | [.fz (.int i)] => some (.fz (.int i))
  | [.fz (.bl b)] => some (.fz (.int (if b then 1 else 0)))
  | _ => none
def gList : List Sl → Option Sl
  | [s] => (seqZ s).map .oL
  | _ => none
def gStr : List Sl → Option Sl
  | [.fz (.int i)] => if i.natAbs.log2 < 1920 then some (.fz (.str (toString i))) else none
  | _ => none
/-- a value's built-in type -/
def tyN : Sl → Option String
  | .fz .non => some "NoneType"
  | .fz (.bl _) => some "bool"
  | .fz (.int _) => some "int"
  | .fz (.str _) => some "str"
  | .fz (.lst _) => some "list"
  | .oL _ => some "list"
  | .oLL _ => some "list"
  | .fz (.tup _) => some "tuple"
  | .fz (.dK _) => some "dict"
  | .fz (.dT _) => some "dict"
  | .oK _ => some "dict"
  | .oT _ => some "dict"
  | _ => none
def gIsi : List Sl → Option Sl
  | [s, .fz (.cls (.ty T))] => (tyN s).bind fun t => (kitB t T).map fun b => .fz (.bl b)
  | _ => none
section
variable {X : Cx}
theorem ok_len : CallOk X (.builtin "len") gLen := by
  refine ⟨_, CallR.or call_len_seq (CallR.or call_len_str (CallR.or call_lenD call_len_dT)), fun G H vs ss s Q gh bs e p => ?_⟩
  unfold gLen at e
  split at e
  · rename_i s'
    obtain ⟨v, rest, rfl, b, t⟩ := All2.cons_r bs
    obtain rfl := t.nil_r
    cases q : lenS s' with
    | none => rw [q] at e; cases e
    | some n =>
      rw [q] at e; cases e
      have pn := p (.int n) H G (.refl gh) (.fz .int)
      unfold lenS at q
      split at q
      · rename_i z
        split at q
        · rename_i hz
          cases q
          exact .inr (.inl ⟨z, by rw [b.inv_fz.inv_str], Nat.le_trans hz (by decide), pn⟩)
        · cases q
      · cases q
        obtain ⟨a, vs, rfl, h1, h2⟩ := b.inv_fz.inv_tup
        exact .inl ⟨a, vs, rfl, .inr (.of (gh _ _ h1)), by rw [h2.1]; exact pn⟩
      · cases q
        obtain ⟨a, vs, rfl, h1, h2⟩ := b.inv_fz.inv_dK
        exact .inr (.inr (.inl ⟨a, vs, rfl, gh _ _ h1, by rw [h2.1]; exact pn⟩))
      · cases q
        obtain ⟨fp, ⟨a, vs, _, e1, h1, h2⟩, _⟩ := b
        cases e1
        exact .inr (.inr (.inl ⟨a, vs, rfl, h1, by rw [h2.1]; exact pn⟩))
      · cases q
        obtain ⟨a, vs, rfl, h1, h2⟩ := b.inv_fz.inv_dT
        exact .inr (.inr (.inr ⟨a, vs, rfl, gh _ _ h1, by rw [h2.1]; exact pn⟩))
      · cases q
        obtain ⟨fp, ⟨a, vs, _, e1, h1, h2⟩, _⟩ := b
        cases e1
        exact .inr (.inr (.inr ⟨a, vs, rfl, h1, by rw [h2.1]; exact pn⟩))
      · cases q2 : lstOf s' with
        | none => rw [q2] at q; cases q
        | some ds =>
          rw [q2] at q; cases q
          obtain ⟨a, vs, rfl, h1, h2⟩ := lst_len q2 b gh
          exact .inl ⟨a, vs, rfl, .inl h1, by rw [h2]; exact pn⟩
  · cases e
theorem ok_ints {f : Value} {r : List V → Hp → VK → Prop} {g : List Int → Option Int} (h : CallR X f r)
    (hr : ∀ (a : Addr) (ns : List Int) (n : Int) H Q, SqL X.K H a (ns.map V.int) → g ns = some n → Q (.int n) H → r [.ref a] H Q) : CallOk X f (gInts g) := by
  refine ⟨r, h, fun G H vs ss s Q gh bs e p => ?_⟩
  unfold gInts at e
  split at e
  · rename_i s'
    obtain ⟨v, rest, rfl, b, t⟩ := All2.cons_r bs
    obtain rfl := t.nil_r
    cases q : lstZ s' with
    | none => rw [q] at e; cases e
    | some ds =>
      rw [q, Option.bind_some] at e
      cases q2 : asInts ds with
      | none => rw [q2] at e; cases e
      | some ns =>
        rw [q2, Option.bind_some] at e
        cases q3 : g ns with
        | none => rw [q3] at e; cases e
        | some n =>
          rw [q3] at e; cases e
          obtain ⟨a, vs, rfl, h1, h2⟩ := lst_items q b gh
          rw [asInts_eq q2] at h2
          rw [Rps.ints h2] at h1
          exact hr a ns n H Q h1 q3 (p _ H G (.refl gh) (.fz .int))
  · cases e
theorem ok_sum (hc : X.calm = true) : CallOk X (.builtin "sum") gSum := ok_ints (cr_sum hc) fun a ns n H Q h e q => by cases e; exact ⟨a, ns, rfl, h, q⟩
theorem ok_min (hc : X.calm = true) : CallOk X (.builtin "min") gMin := ok_ints (cr_min hc) fun a ns n H Q h e q => by
  obtain ⟨h1, h2, h3⟩ := minI_ok e
  refine ⟨a, ns, rfl, h, h1, fun m hm hl => ?_⟩
  have : m = n := Int.le_antisymm (hl n h2) (h3 m hm)
  rw [this]; exact q
theorem ok_max (hc : X.calm = true) : CallOk X (.builtin "max") gMax := ok_ints (cr_max hc) fun a ns n H Q h e q => by
  obtain ⟨h1, h2, h3⟩ := maxI_ok e
  refine ⟨a, ns, rfl, h, h1, fun m hm hl => ?_⟩
  have : m = n := Int.le_antisymm (h3 m hm) (hl n h2)
  rw [this]; exact q
theorem ok_bls {f : Value} {r : List V → Hp → VK → Prop} {g : List Bool → Bool} (h : CallR X f r)
    (hr : ∀ (a : Addr) (ns : List Bool) H Q, SqL X.K H a (ns.map V.bl) → Q (.bl (g ns)) H → r [.ref a] H Q) : CallOk X f (gBls g) := by
  refine ⟨r, h, fun G H vs ss s Q gh bs e p => ?_⟩
  unfold gBls at e
  split at e
  · rename_i s'
    obtain ⟨v, rest, rfl, b, t⟩ := All2.cons_r bs
    obtain rfl := t.nil_r
    cases q : lstZ s' with
    | none => rw [q] at e; cases e
    | some ds =>
      rw [q, Option.bind_some] at e
      cases q2 : asBls ds with
      | none => rw [q2] at e; cases e
      | some ns =>
        rw [q2] at e; cases e
        obtain ⟨a, vs, rfl, h1, h2⟩ := lst_items q b gh
        rw [asBls_eq q2] at h2
        rw [Rps.bls h2] at h1
        exact hr a ns H Q h1 (p _ H G (.refl gh) (.fz .bl))
  · cases e
theorem ok_any (hc : X.calm = true) : CallOk X (.builtin "any") gAny := ok_bls (cr_any hc) fun a ns H Q h q => ⟨a, ns, rfl, h, q⟩
theorem ok_all (hc : X.calm = true) : CallOk X (.builtin "all") gAll := ok_bls (cr_all hc) fun a ns H Q h q => ⟨a, ns, rfl, h, q⟩
theorem bs1 {K : PySem.W.Frag} {G H : Hp} {vs : List V} {s : Sl} (bs : All2 (Bw K G H) vs [s]) : ∃ v, vs = [v] ∧ Bw K G H v s := by
  obtain ⟨v, rest, rfl, b, t⟩ := All2.cons_r bs
  obtain rfl := t.nil_r
  exact ⟨v, rfl, b⟩
theorem bs2 {K : PySem.W.Frag} {G H : Hp} {vs : List V} {s s' : Sl} (bs : All2 (Bw K G H) vs [s, s']) : ∃ v w, vs = [v, w] ∧ Bw K G H v s ∧ Bw K G H w s' := by
  obtain ⟨v, rest, rfl, b, t⟩ := All2.cons_r bs
  obtain ⟨w, rfl, c⟩ := bs1 t
  exact ⟨v, w, rfl, b, c⟩
theorem ok_abs : CallOk X (.builtin "abs") gAbs := by
  refine ⟨_, call_abs, fun G H vs ss s Q gh bs e p => ?_⟩
  unfold gAbs at e
  split at e
  · cases e
    obtain ⟨v, rfl, b⟩ := bs1 bs
    exact ⟨_, by rw [b.inv_fz.inv_int], p _ H G (.refl gh) (.fz .int)⟩
  · cases e
theorem ok_min2 (hc : X.calm = true) : CallOk X (.builtin "min") gMin2 := by
  refine ⟨_, call_min2 hc, fun G H vs ss s Q gh bs e p => ?_⟩
  unfold gMin2 at e
  split at e
  · cases e
    obtain ⟨v, w, rfl, b, c⟩ := bs2 bs
    exact ⟨_, _, by rw [b.inv_fz.inv_int, c.inv_fz.inv_int], p _ H G (.refl gh) (.fz .int)⟩
  · cases e
theorem ok_max2 (hc : X.calm = true) : CallOk X (.builtin "max") gMax2 := by
  refine ⟨_, call_max2 hc, fun G H vs ss s Q gh bs e p => ?_⟩
  unfold gMax2 at e
  split at e
  · cases e
    obtain ⟨v, w, rfl, b, c⟩ := bs2 bs
    exact ⟨_, _, by rw [b.inv_fz.inv_int, c.inv_fz.inv_int], p _ H G (.refl gh) (.fz .int)⟩
  · cases e
theorem ok_int : CallOk X (.type "int") gInt := by
  refine ⟨_, call_int1, fun G H vs ss s Q gh bs e p => ?_⟩
  unfold gInt at e
  split at e
  · cases e
    obtain ⟨v, rfl, b⟩ := bs1 bs
    exact .inl ⟨_, by rw [b.inv_fz.inv_int], p _ H G (.refl gh) (.fz .int)⟩
  · cases e
    obtain ⟨v, rfl, b⟩ := bs1 bs
    exact .inr ⟨_, by rw [b.inv_fz.inv_bl], p _ H G (.refl gh) (.fz .int)⟩
  · cases e
theorem ok_list : CallOk X (.type "list") gList := by
  refine ⟨_, call_list_of, fun G H vs ss s Q gh bs e p => ?_⟩
  unfold gList at e
  split at e
  · rename_i s'
    obtain ⟨v, rfl, b⟩ := bs1 bs
    cases q : seqZ s' with
    | none => rw [q] at e; cases e
    | some ds =>
      rw [q] at e; cases e
      obtain ⟨a, vs, rfl, t, r⟩ := seq_items q b gh
      refine ⟨a, vs, rfl, t, fun l nl => p _ _ G (xt_newH gh nl _) ⟨[l], ⟨l, vs, rfl, rfl, upd_same, r⟩, fun q hq => ?_⟩⟩
      simp at hq; subst hq
      exact ⟨nl, gh.free nl⟩
  · cases e
theorem ok_str : CallOk X (.type "str") gStr := by
  refine ⟨_, call_str_int, fun G H vs ss s Q gh bs e p => ?_⟩
  unfold gStr at e
  split at e
  · split at e
    · rename_i hz
      cases e
      obtain ⟨v, rfl, b⟩ := bs1 bs
      exact ⟨_, by rw [b.inv_fz.inv_int], hz, p _ H G (.refl gh) (.fz .str)⟩
    · cases e
  · cases e
theorem tyN_ok {K : PySem.W.Frag} {G H : Hp} {v : V} {s : Sl} {t : String} (gh : Same G H) (b : Bw K G H v s) (h : tyN s = some t) : TyX K H v (.type t) := by
  obtain ⟨fp, r, _⟩ := b
  cases s with
  | un => cases h
  | fz d =>
    obtain ⟨_, w, e, r⟩ := r
    cases e
    cases d with
    | non => cases h; rw [r.inv_non]; exact .base .non
    | bl b => cases h; rw [r.inv_bl]; exact .base (.bl _)
    | int b => cases h; rw [r.inv_int]; exact .base (.int _)
    | str b => cases h; rw [r.inv_str]; exact .base (.str _)
    | lst b => cases h; obtain ⟨a, vs, rfl, h1, _⟩ := r.inv_lst; exact .base (.lst (gh _ _ h1))
    | tup b => cases h; obtain ⟨a, vs, rfl, h1, _⟩ := r.inv_tup; exact .base (.tup (gh _ _ h1))
    | dK b => cases h; obtain ⟨a, vs, rfl, h1, _⟩ := r.inv_dK; exact .base (.dK (gh _ _ h1))
    | dT b => cases h; obtain ⟨a, vs, rfl, h1, _⟩ := r.inv_dT; exact .base (.dT (gh _ _ h1))
    | _ => cases h
  | oL d => cases h; obtain ⟨p, vs, _, e, h1, _⟩ := r; cases e; exact .base (.lst h1)
  | oK d => cases h; obtain ⟨p, vs, _, e, h1, _⟩ := r; cases e; exact .base (.dK h1)
  | oT d => cases h; obtain ⟨p, vs, _, e, h1, _⟩ := r; cases e; exact .base (.dT h1)
  | oLL d => cases h; obtain ⟨p, vs, _, e, h1, _⟩ := r; cases e; exact .base (.lst h1)
  | oI p C d => cases h
theorem ok_isi : CallOk X (.builtin "isinstance") gIsi := by
  refine ⟨_, call_isi, fun G H vs ss s Q gh bs e p => ?_⟩
  unfold gIsi at e
  split at e
  · rename_i s' T
    obtain ⟨v, w, rfl, b, c⟩ := bs2 bs
    cases q : tyN s' with
    | none => rw [q] at e; cases e
    | some t =>
      rw [q, Option.bind_some] at e
      cases q2 : kitB t T with
      | none => rw [q2] at e; cases e
      | some k =>
        rw [q2] at e; cases e
        rw [c.inv_fz.inv_cls]
        exact ⟨v, .ty T, _, _, k, rfl, .ty T, tyN_ok gh b q, kit_ty q2, p _ H G (.refl gh) (.fz .bl)⟩
  · cases e
end
section
variable {X : Cx} {E : L2.St → XK}
/-- a built-in class as a value -/
theorem fe_ty {x : Str} {T : String} {pos : Pos} (hm : X.mg x = none) (hv : bootBuiltins x = some (.type T)) (hg : Gl X x := by rfl) (hn : x ≠ "__name__" := by decide) (hd : (x == ("__debug__" : Str)) = false := by decide) : FE X E (.Name x pos) (fC (.cls (.ty T))) :=
  fe_c (pe_bltn (v := .ty T) hg hm hv rfl hn hd) fun _ => .cls
/-- a module's name -/
theorem fe_glob {x : Str} {v : V} {u : Value} {d : D} {pos : Pos} (hm : X.mg x = some u) (r : RelV v u) (hr : ∀ G, Rp X.K G v d) (hg : Gl X x := by rfl) (hd : (x == ("__debug__" : Str)) = false := by decide) : FE X E (.Name x pos) (fC d) :=
  fe_c (pe_glob hg hm r hd) hr
end

/-! ### 15. unary minus, fields, slices -/
def oNeg : Sl → Option Sl
  | .fz (.int i) => some (.fz (.int (-i)))
  | _ => none
def fUn (g : Sl → Option Sl) (f : Env → Option (R Sl)) : Env → Option (R Sl) := fun ρ => bnd (f ρ) fun s => pur (g s)
def fldS (ok : Addr → Bool) (f : Str) : Sl → Option Sl
  | .fz (.obj C fs) => if ok C = true then (fs.lookup f).map .fz else none
  | .oI _ C fs => if ok C = true then (fs.lookup f).map .fz else none
  | _ => none
theorem rkv_lookup {K : PySem.W.Frag} {G : Hp} {f : Str} {d : D} : ∀ {ds : List (Str × D)} {vs : List (Str × V)}, RKV K G vs ds → ds.lookup f = some d → ∃ v, vs.lookup f = some v ∧ Rp K G v d
  | [], vs, r, h => by cases h
  | e :: ds, vs, r, h => by
    obtain ⟨x, rest, rfl, a, b⟩ := All2.cons_r r
    obtain ⟨k, v⟩ := x
    obtain ⟨k', d'⟩ := e
    obtain ⟨a1, a2⟩ := a
    dsimp only at a1 a2
    subst a1
    rw [List.lookup_cons] at h ⊢
    cases q : f == k with
    | true => rw [q] at h; cases h; exact ⟨v, rfl, a2⟩
    | false => rw [q] at h; exact rkv_lookup b h
theorem rkv_lookup_none {K : PySem.W.Frag} {G : Hp} {f : Str} : ∀ {ds : List (Str × D)} {vs : List (Str × V)}, RKV K G vs ds → ds.lookup f = none → vs.lookup f = none
  | [], vs, r, h => by rw [All2.nil_r r]; rfl
  | e :: ds, vs, r, h => by
    obtain ⟨x, rest, rfl, a, b⟩ := All2.cons_r r
    obtain ⟨k, v⟩ := x
    obtain ⟨k', d'⟩ := e
    obtain ⟨a1, a2⟩ := a
    dsimp only at a1 a2
    subst a1
    rw [List.lookup_cons] at h ⊢
    cases q : f == k with
    | true => rw [q] at h; cases h
    | false => rw [q] at h; exact rkv_lookup_none b h
def cutG {α : Type} (xs : List α) (lo hi : Option Int) : List α := (xs.drop (HT.sIx xs.length 0 lo)).take (HT.sIx xs.length xs.length hi - HT.sIx xs.length 0 lo)
def sliceS (lo hi : Option Int) : Sl → Option Sl
  | .fz (.str z) => if z.length ≤ 1000000 then some (.fz (.str (cutS z lo hi))) else none
  | s => (lstZ s).map fun ds => .oL (cutG ds lo hi)
def fNoPart : Env → Option (R (Option Int)) := fun _ => some (.val none)
def fPart (f : Env → Option (R Sl)) : Env → Option (R (Option Int)) := fun ρ => bnd (f ρ) fun s => match s with | .fz (.int i) => some (.val (some i)) | _ => none
def fSlice (f : Env → Option (R Sl)) (l h : Env → Option (R (Option Int))) : Env → Option (R Sl) := fun ρ => bnd (f ρ) fun s => bnd (l ρ) fun lo => bnd (h ρ) fun hi => pur (sliceS lo hi s)
def PoO (K : PySem.W.Frag) (E : XK) (G H : Hp) (Q : Option Int → Hp → Prop) : R (Option Int) → Prop
  | .val b => ∀ H' G', Xt G H G' H' → Q b H'
  | .ex C fs => PX K E G H C fs
def tFO (K : PySem.W.Frag) (E : L2.St → XK) (f : Env → Option (R (Option Int))) : TO := fun σ H Q => ∃ G ρ F r, SE K G H σ ρ F ∧ f ρ = some r ∧ PoO K (E σ) G H Q r
def FO (X : Cx) (E : L2.St → XK) (e : Option Expr) (f : Env → Option (R (Option Int))) : Prop := PO X e (tFO X.K E f)
theorem PO_le {X : Cx} {e : Option Expr} {t t' : TO} (h : PO X e t) (w : ∀ σ H Q, t' σ H Q → t σ H Q) : PO X e t' := ⟨fun pins s σ H Q I hw => h.run pins s σ H Q I (w _ _ _ hw)⟩
section
variable {X : Cx} {E : L2.St → XK} {e : Expr} {f : Env → Option (R Sl)} {pos p : Pos}
theorem un_core {K : PySem.W.Frag} {g : Sl → Option Sl} {r : V → Hp → VK → Prop} (hg : ∀ G H x sx s Q, Same G H → Bw K G H x sx → g sx = some s → PoV K G H Q s → r x H Q) {σ H Q} (h : tFE K E (fUn g f) σ H Q) : tFB K E f σ H fun x H1 => r x H1 Q := by
  obtain ⟨G, ρ, F, r, hs, hr, hp⟩ := h
  refine useB hs hr hp.px fun sx x H1 G1 h1 x1 bx => ?_
  obtain ⟨s, e, rfl⟩ := pur_eq h1
  exact hg G1 H1 x sx s Q x1.gh bx e (hp.xt x1)
theorem fe_neg (h : FB X E e f) : FE X E (.UnaryOp .USub e pos) (fUn oNeg f) := PE_le (pe_un un_neg h) fun σ H Q q => un_core (r := rU fun i => .int (-i)) (fun G H x sx s Q gh bx e p => by
  unfold oNeg at e
  split at e
  · cases e; exact ⟨_, bx.inv_fz.inv_int, p _ H G (.refl gh) (.fz .int)⟩
  · cases e) q
theorem fe_fld {fn : Str} {ok : Addr → Bool} (h : FB X E e f) (hok : ∀ C, ok C = true → Cls X.K C ∧ NoAttr X.K C fn) (hb : attributeBase e fn X.env (eval e X.env) = eval e X.env := by rfl) : FE X E (.Attribute e fn pos) (fUn (fldS ok fn) f) :=
  PE_le (pe_fld h hb) fun σ H Q q => un_core (r := fun x H1 Q => ∃ a C dx fs v, x = .ref a ∧ H1 a = some (.ins C dx fs) ∧ Cls X.K C ∧ NoAttr X.K C fn ∧ fs.lookup fn = some v ∧ Q v H1) (fun G H x sx s Q gh bx e p => by
    unfold fldS at e
    split at e
    · rename_i C fs
      split at e
      · rename_i hC
        cases q : fs.lookup fn with
        | none => rw [q] at e; cases e
        | some d =>
          rw [q] at e; cases e
          obtain ⟨a, dx, vs, rfl, h1, h2⟩ := bx.inv_fz.inv_obj
          obtain ⟨v, h3, h4⟩ := rkv_lookup h2 q
          exact ⟨a, C, dx, vs, v, rfl, gh _ _ h1, (hok C hC).1, (hok C hC).2, h3, p v H G (.refl gh) (.fz h4)⟩
      · cases e
    · rename_i a C fs
      split at e
      · rename_i hC
        cases q : fs.lookup fn with
        | none => rw [q] at e; cases e
        | some d =>
          rw [q] at e; cases e
          obtain ⟨fp, ⟨dx, vs, _, e1, h1, h2⟩, _⟩ := bx
          cases e1
          obtain ⟨v, h3, h4⟩ := rkv_lookup h2 q
          exact ⟨a, C, dx, vs, v, rfl, h1, (hok C hC).1, (hok C hC).2, h3, p v H G (.refl gh) (.fz h4)⟩
      · cases e
    · cases e) q
theorem fo_none : FO X E none fNoPart := PO_le po_none fun σ H Q q => by
  obtain ⟨G, ρ, F, r, hs, hr, hp⟩ := q
  cases hr
  exact hp H G (.refl hs.gh)
theorem fo_some (h : FB X E e f) : FO X E (some e) (fPart f) := PO_le (po_some h) fun σ H Q q => by
  obtain ⟨G, ρ, F, r, hs, hr, hp⟩ := q
  refine useB hs hr (fun C fs e => by subst e; exact hp) fun sx x H1 G1 h1 x1 bx => ?_
  split at h1
  · cases h1
    exact ⟨_, bx.inv_fz.inv_int, hp H1 G1 x1⟩
  · cases h1
theorem PoO.xt {K : PySem.W.Frag} {E : XK} {G H G1 H1 : Hp} {Q : Option Int → Hp → Prop} {r : R (Option Int)} (h : PoO K E G H Q r) (x : Xt G H G1 H1) : PoO K E G1 H1 Q r := by
  cases r with
  | val s => exact fun H' G' y => h H' G' (x.trans y)
  | ex C fs => exact PX.xt h x
theorem useO {K : PySem.W.Frag} {β : Type} {r : R β} {G H : Hp} {σ : L2.St} {ρ : Env} {F : Nat → List Addr} {fa : Env → Option (R (Option Int))} {k : Option Int → Option (R β)} (hs : SE K G H σ ρ F) (h : bnd (fa ρ) k = some r) (px : ∀ C fs, r = .ex C fs → PX K (E σ) G H C fs) {Q : Option Int → Hp → Prop}
    (ct : ∀ b H1 G1, k b = some r → Xt G H G1 H1 → Q b H1) : tFO K E fa σ H Q := by
  cases q : fa ρ with
  | none => rw [q] at h; cases h
  | some x =>
    rw [q] at h
    cases x with
    | val s => exact ⟨G, ρ, F, _, hs, q, fun H' G' xt => ct s H' G' h xt⟩
    | ex C fs => cases h; exact ⟨G, ρ, F, _, hs, q, px C fs rfl⟩
theorem All2.cut {α β : Type} {T : α → β → Prop} {xs : List α} {ys : List β} (t : All2 T xs ys) (lo hi : Option Int) : All2 T (cutG xs lo hi) (cutG ys lo hi) := by
  unfold cutG
  rw [t.1]
  exact (t.drop _).take _
theorem fe_slice {lo hi : Option Expr} {fl fh : Env → Option (R (Option Int))} {p2 : Pos} (h : FB X E e f) (hl : FO X E lo fl) (hh : FO X E hi fh) : FE X E (.Subscript e (.Slice lo hi none p2) pos) (fSlice f fl fh) :=
  PE_le (pe_slice (SlR.or sl_list sl_str) h hl hh) fun σ H Q q => by
    obtain ⟨G, ρ, F, r, hs, hr, hp⟩ := q
    refine useB hs hr hp.px fun sx x H1 G1 h1 x1 bx => ?_
    refine useO (hs.xt x1) h1 (hp.xt x1).px fun l H2 G2 h2 x2 => ?_
    refine useO ((hs.xt x1).xt x2) h2 ((hp.xt x1).xt x2).px fun u H3 G3 h3 x3 => ?_
    have hp3 := ((hp.xt x1).xt x2).xt x3
    obtain ⟨s, e, rfl⟩ := pur_eq h3
    have b3 := (bx.xt x2).xt x3
    have gh := x3.gh
    unfold sliceS at e
    split at e
    · rename_i z
      split at e
      · rename_i hz
        cases e
        exact .inr ⟨z, b3.inv_fz.inv_str, Nat.le_trans hz (by decide), hp3 _ H3 G3 (.refl gh) (.fz .str)⟩
      · cases e
    · cases q : lstZ sx with
      | none => rw [q] at e; cases e
      | some ds =>
        rw [q] at e; cases e
        obtain ⟨a, vs, rfl, h4, h5⟩ := lst_items q b3 gh
        refine .inl ⟨a, vs, rfl, h4, fun p np => hp3 _ _ G3 (xt_newH gh np _) ⟨[p], ⟨p, _, rfl, rfl, upd_same, h5.cut l u⟩, fun q hq => ?_⟩⟩
        simp at hq; subst hq
        exact ⟨np, gh.free np⟩
end

/-! ### 16. calls of own defs -/
def spF (K : PySem.W.Frag) (g : List D → Option (R Sl)) : Sp := fun vs H Q E => ∃ G ds r, Same G H ∧ Rps K G vs ds ∧ g ds = some r ∧ PoE K E G H Q r
def fCall (g : List D → Option (R Sl)) (fas : Env → Option (R (List D))) : Env → Option (R Sl) := fun ρ => bnd (fas ρ) g
/-- borrowed arguments, a flat answer -/
def frAll : List Sl → Option (List D)
  | [] => some []
  | s :: ss => match s.fr, frAll ss with
    | some d, some ds => some (d :: ds)
    | _, _ => none
def flatR : Option (R Sl) → Option (R Sl)
  | some (.val (.fz d)) => if flatD d = true then some (.val (.fz d)) else none
  | some (.ex C none) => some (.ex C none)
  | _ => none
def fCallW (g : List D → Option (R Sl)) (fas : Env → Option (R (List Sl))) : Env → Option (R Sl) := fun ρ => bnd (fas ρ) fun ss => match frAll ss with
  | some ds => flatR (g ds)
  | none => none
theorem rp_flat {K : PySem.W.Frag} {G G' : Hp} {v : V} {d : D} (h : flatD d = true) (r : Rp K G v d) : Rp K G' v d := by
  cases r <;> first | exact .non | exact .bl | exact .int | exact .str | cases h
theorem frz_all {K : PySem.W.Frag} {G H : Hp} (gh : Same G H) : ∀ {ss : List Sl} {vs : List V} {ds : List D}, All2 (Bw K G H) vs ss → frAll ss = some ds → ∃ U : List Addr, (∀ p ∈ U, G p = none) ∧ ∀ U', (∀ p ∈ U, p ∈ U') → (∀ p ∈ U', G p = none) → Rps K (frz G H U') vs ds
  | [], vs, ds, b, h => by
    cases h
    rw [All2.nil_r b]
    exact ⟨[], fun p hp => by simp at hp, fun _ _ _ => All2.nil⟩
  | s :: ss, vs, ds, b, h => by
    obtain ⟨v, rest, rfl, b1, b2⟩ := All2.cons_r b
    unfold frAll at h
    split at h
    · rename_i d ds' q1 q2
      cases h
      obtain ⟨U, h1, h2⟩ := frz_all gh b2 q2
      obtain ⟨fp, r, h3⟩ := b1
      refine ⟨fp ++ U, fun p hp => ?_, fun U' hs hn => ?_⟩
      · rcases List.mem_append.mp hp with hp | hp
        · exact h3 p hp
        · exact h1 p hp
      · exact All2.cons (r.frozen (frz_same hn) (fun p hp => frz_in (hs p (List.mem_append_left _ hp))) q1) (h2 U' (fun p hp => hs p (List.mem_append_right _ hp)) hn)
    · cases h
section
variable {X : Cx} {E : L2.St → XK} {k : Nat} {f : Addr} {fd : FuncData} {ps : List Str} {g : List D → Option (R Sl)} {x : Str} {p pos : Pos} {e : Expr} {es : List Expr}
theorem call_core {K : PySem.W.Frag} {fas : Env → Option (R (List D))} {σ H Q} (h : tFE K E (fCall g fas) σ H Q) : tCallS (spF K g) E (tFA K E fas) σ H Q := by
  obtain ⟨G, ρ, F, r, hs, hr, hp⟩ := h
  refine useA hs hr hp.px fun ds vs H1 G1 h1 x1 rps => ?_
  exact ⟨G1, ds, r, x1.gh, rps, h1, hp.xt x1⟩
theorem fe_call {fas : Env → Option (R (List D))} (Fn : FnOk X.prog X.w X.K X.mg X.base (L2.CX X.prog X.w) k f fd ps (spF X.K g)) (hr : Room k X.A) (hm : X.mg x = some (.ref f)) (hk : PySem.W.keepIn X.K (.ref f) = true) (hb : Binds X.K fd ps []) (hx : ∀ σ, PassesAt (L2.CX X.prog X.w) X σ (E σ))
    (ha : FA X E (e :: es) fas) (hg : Gl X x := by rfl) (hdb : (x == ("__debug__" : Str)) = false := by decide) (he : starEach (e :: es) X.env = (false, eval e X.env) :: starEach es X.env := by rfl) (hpl : (backTo pos (starEach es X.env)).any (·.1) = false := by rfl) :
    FE X E (.Call (.Name x p) (e :: es) [] pos) (fCall g fas) := PE_le (pe_callS Fn hr hg hm hk hb hx ha hdb he hpl) fun σ H Q h => call_core h
theorem callW_core {K : PySem.W.Frag} {fas : Env → Option (R (List Sl))} {σ H Q} (h : tFE K E (fCallW g fas) σ H Q) : tCallS (spF K g) E (tFAB K E fas) σ H Q := by
  obtain ⟨G, ρ, F, r, hs, hr, hp⟩ := h
  refine useAB hs hr hp.px fun ss vs H1 G1 h1 x1 bs => ?_
  split at h1
  · rename_i ds q
    obtain ⟨U, u1, u2⟩ := frz_all x1.gh bs q
    have rps := u2 U (fun _ h => h) u1
    have gs : Same (frz G1 H1 U) H1 := frz_sub x1.gh
    unfold flatR at h1
    split at h1
    · rename_i d qg
      split at h1
      · rename_i hf
        cases h1
        refine ⟨_, ds, _, gs, rps, qg, fun v H' G' xx o => ?_⟩
        have r2 := rp_flat (G' := G1) hf o.bw.inv_fz
        exact hp.xt x1 v H' G1 ⟨Same.refl _, xx.h, x1.gh.trans xx.h, fun _ _ => rfl⟩ (.fz r2)
      · cases h1
    · rename_i C qg
      cases h1
      refine ⟨_, ds, _, gs, rps, qg, fun d H' G' xx o => ?_⟩
      refine hp.xt x1 d H' G1 ⟨Same.refl _, xx.h, x1.gh.trans xx.h, fun _ _ => rfl⟩ ?_
      cases d with
      | none => trivial
      | some a => exact o.elim
    · cases h1
  · cases h1
theorem fe_callW {fas : Env → Option (R (List Sl))} (Fn : FnOk X.prog X.w X.K X.mg X.base (L2.CX X.prog X.w) k f fd ps (spF X.K g)) (hr : Room k X.A) (hm : X.mg x = some (.ref f)) (hk : PySem.W.keepIn X.K (.ref f) = true) (hb : Binds X.K fd ps []) (hx : ∀ σ, PassesAt (L2.CX X.prog X.w) X σ (E σ))
    (ha : FAB X E (e :: es) fas) (hg : Gl X x := by rfl) (hdb : (x == ("__debug__" : Str)) = false := by decide) (he : starEach (e :: es) X.env = (false, eval e X.env) :: starEach es X.env := by rfl) (hpl : (backTo pos (starEach es X.env)).any (·.1) = false := by rfl) :
    FE X E (.Call (.Name x p) (e :: es) [] pos) (fCallW g fas) := PE_le (pe_callS Fn hr hg hm hk hb hx ha hdb he hpl) fun σ H Q h => callW_core h
/-- methods of an own class's instance, by the class -/
def fMeth (C : Addr) (m : Str) (g : List D → Option (R Sl)) (fo : Env → Option (R Sl)) (fas : Env → Option (R (List D))) : Env → Option (R Sl) := fun ρ => bnd (frD (fo ρ)) fun o => match o with
  | .obj C' fs => if C' = C ∧ fs.lookup m = none then bnd (fas ρ) fun ds => g (.obj C' fs :: ds) else none
  | _ => none
variable {C : Addr} {m : Str} {o : Expr} {fo : Env → Option (R Sl)} {E1 : XK} {apos : Pos}
theorem meth_core {K : PySem.W.Frag} {fas : Env → Option (R (List D))} {σ H Q} (h : tFE K (fun _ => E1) (fMeth C m g fo fas) σ H Q) : tMeth C m (spF K g) [] E1 (tFE K (fun _ => E1) fo) (tFA K (fun _ => E1) fas) σ H Q := by
  obtain ⟨G, ρ, F, r, hs, hr, hp⟩ := h
  refine useD hs hr hp.px fun d v H1 G1 h1 x1 rp => ?_
  split at h1
  · rename_i C' fs
    split at h1
    · rename_i hC
      obtain ⟨rfl, hl⟩ := hC
      obtain ⟨a, dx, vs, rfl, e1, e2⟩ := rp.inv_obj
      refine ⟨a, dx, vs, rfl, x1.gh _ _ e1, rkv_lookup_none e2 hl, ?_⟩
      refine useA (E := fun _ => E1) (hs.xt x1) h1 (hp.xt x1).px fun ds vs H2 G2 h2 x2 rps => ?_
      rw [List.append_nil]
      exact ⟨G2, _, r, x2.gh, All2.cons (rp.mono x2.g) rps, h2, (hp.xt x1).xt x2⟩
    · cases h1
  · cases h1
theorem fe_meth {e' : Expr} {fas : Env → Option (R (List D))} (h : PE X e' (tMeth C m (spF X.K g) [] E1 (tFE X.K (fun _ => E1) fo) (tFA X.K (fun _ => E1) fas))) : FE X (fun _ => E1) e' (fMeth C m g fo fas) :=
  PE_le h fun σ H Q q => meth_core q
theorem fe_meth0 {e' : Expr} (h : PE X e' (tMeth C m (spF X.K g) [] E1 (tFE X.K (fun _ => E1) fo) tNil)) : FE X (fun _ => E1) e' (fMeth C m g fo fNil) :=
  PE_le h fun σ H Q q => by
    have h := meth_core q
    obtain ⟨G, ρ, F, r, hs, hr, hp⟩ := q
    refine useD hs hr hp.px fun d v H1 G1 h1 x1 rp => ?_
    split at h1
    · rename_i C' fs
      split at h1
      · rename_i hC
        obtain ⟨rfl, hl⟩ := hC
        obtain ⟨a, dx, vs, rfl, e1, e2⟩ := rp.inv_obj
        exact ⟨a, dx, vs, rfl, x1.gh _ _ e1, rkv_lookup_none e2 hl, G1, _, r, x1.gh, All2.cons rp All2.nil, h1, hp.xt x1⟩
      · cases h1
    · cases h1
end
end FN

set_option Elab.async false
set_option linter.all false
set_option maxRecDepth 100000
set_option maxHeartbeats 1000000
/-! FN, part E: what is walked, targets, comprehensions. -/
namespace FN
open PySem PySem.Spec PyProof.Rows L2

/-! ### 17. walks -/
def WalkD (K : PySem.W.Frag) (J : It) (Bz G : Hp) (items : List D) : Prop :=
  ∃ Y, Walk J items.length (fun H => Same Bz H) Y ∧ ∀ i H x H' d Gc, items[i]? = some d → Same G Gc → Same Gc H → Same Bz H → Y i H x H' → ∃ Gc', Xt Gc H Gc' H' ∧ Rp K Gc' x d
theorem WalkD.mono {K : PySem.W.Frag} {J : It} {Bz Bz' G : Hp} {items : List D} (w : WalkD K J Bz G items) (h : Same Bz Bz') : WalkD K J Bz' G items := by
  obtain ⟨Y, a, b⟩ := w
  exact ⟨Y, a.mono (fun H hh => h.trans hh) fun _ _ _ _ _ _ y => y, fun i H x H' d Gc h1 h2 h3 h4 y => b i H x H' d Gc h1 h2 h3 (h.trans h4) y⟩
/-- of frozen things (a for); of things that stand (a comprehension) -/
def PoI (K : PySem.W.Frag) (E : XK) (fr : Bool) (G H : Hp) (Q : It → Hp → Prop) : R (List D) → Prop
  | .val ds => ∀ J H' G', Xt G H G' H' → WalkD K J (if fr = true then G' else H') G' ds → Q J H'
  | .ex C fs => PX K E G H C fs
def tFI (K : PySem.W.Frag) (E : L2.St → XK) (fr : Bool) (f : Env → Option (R (List D))) : TI := fun σ H Q => ∃ G ρ F r, SE K G H σ ρ F ∧ f ρ = some r ∧ PoI K (E σ) fr G H Q r
def FI (X : Cx) (E : L2.St → XK) (fr : Bool) (tg e : Expr) (f : Env → Option (R (List D))) : Prop := PI X tg e (tFI X.K E fr f)
theorem PI_le {X : Cx} {tg e : Expr} {t t' : TI} (h : PI X tg e t) (w : ∀ σ H Q, t' σ H Q → t σ H Q) : PI X tg e t' := ⟨fun pins s σ H Q I hw => h.run pins s σ H Q I (w _ _ _ hw)⟩
def fItL (f : Env → Option (R Sl)) : Env → Option (R (List D)) := fun ρ => bnd (frD (f ρ)) fun d => match d with
  | .lst ds => some (.val ds)
  | .scr ds => some (.val ds)
  | _ => none
def fItB (f : Env → Option (R Sl)) : Env → Option (R (List D)) := fun ρ => bnd (f ρ) fun s => pur (lstZ s)
def rangeD (lo : Int) (n : Nat) : List D := (List.range n).map fun (k : Nat) => D.int (lo + k)
def cRng (i : Int) : Prop := -(2 ^ 62) ≤ i ∧ i < 2 ^ 62
instance (i : Int) : Decidable (cRng i) := by unfold cRng; exact inferInstance
def rng1 : List Sl → Option (List D)
  | [.fz (.int j)] => if cRng j then some (rangeD 0 j.toNat) else none
  | _ => none
def rng2 : List Sl → Option (List D)
  | [.fz (.int i), .fz (.int j)] => if cRng i ∧ cRng j then some (rangeD i (j - i).toNat) else none
  | _ => none
def fRng (g : List Sl → Option (List D)) (f : Env → Option (R (List Sl))) : Env → Option (R (List D)) := fun ρ => bnd (f ρ) fun ss => pur (g ss)
theorem rangeD_get {lo : Int} {n i : Nat} {d : D} (h : (rangeD lo n)[i]? = some d) : d = .int (lo + i) := by
  unfold rangeD at h
  rw [List.getElem?_map] at h
  by_cases hi : i < n
  · rw [List.getElem?_range hi] at h; cases h; rfl
  · rw [List.getElem?_eq_none (by simpa using hi)] at h; cases h
theorem rangeD_len {lo : Int} {n : Nat} : (rangeD lo n).length = n := by simp [rangeD]
theorem walkD_list {K : PySem.W.Frag} {a : Addr} {Bz G : Hp} {vs : List V} {ds : List D} (h : ∀ H, Same Bz H → SqL K H a vs) (r : Rps K G vs ds) : WalkD K (Itl K a) Bz G ds := by
  refine ⟨YAt vs, ?_, fun i H x H' d Gc h1 h2 h3 h4 y => ?_⟩
  · rw [← r.1]
    exact walk_list.mono h fun _ _ _ _ _ _ y => y
  · obtain ⟨rfl, y⟩ := y
    exact ⟨Gc, .refl h3, (r.2 i x d y h1).mono h2⟩
theorem walkD_range {K : PySem.W.Frag} {Bz G : Hp} {lo : Int} {n : Nat} : WalkD K (Itr lo n) Bz G (rangeD lo n) := by
  refine ⟨YFn fun i => .int (lo + i), ?_, fun i H x H' d Gc h1 h2 h3 h4 y => ?_⟩
  · rw [rangeD_len]
    exact walk_range.mono (fun _ _ => trivial) fun _ _ _ _ _ _ y => y
  · obtain ⟨rfl, rfl⟩ := y
    rw [rangeD_get h1]
    exact ⟨Gc, .refl h3, .int⟩
section
variable {X : Cx} {E : L2.St → XK} {tg e : Expr} {f : Env → Option (R Sl)} {fr : Bool}
theorem fi_list (h : FE X E e f) : FI X E true tg e (fItL f) := PI_le (pi_list h) fun σ H Q q => by
  obtain ⟨G, ρ, F, r, hs, hr, hp⟩ := q
  refine useD hs hr (fun C fs e => by subst e; exact hp) fun d v H1 G1 h1 x1 rp => ?_
  split at h1
  · cases h1
    obtain ⟨a, vs, rfl, e1, e2⟩ := rp.inv_lst
    refine ⟨a, rfl, ⟨vs, .of (x1.gh _ _ e1)⟩, hp _ H1 G1 x1 ?_⟩
    rw [if_pos rfl]
    exact walkD_list (fun H hh => .of (hh _ _ e1)) e2
  · cases h1
    obtain ⟨a, vs, rfl, e1, e2⟩ := rp.inv_scr
    refine ⟨a, rfl, ⟨vs, x1.gh.seq e1⟩, hp _ H1 G1 x1 ?_⟩
    rw [if_pos rfl]
    exact walkD_list (fun H hh => hh.seq e1) e2
  · cases h1
theorem fi_listB (h : FB X E e f) : FI X E false tg e (fItB f) := PI_le (pi_list h) fun σ H Q q => by
  obtain ⟨G, ρ, F, r, hs, hr, hp⟩ := q
  refine useB hs hr (fun C fs e => by subst e; exact hp) fun s v H1 G1 h1 x1 b => ?_
  obtain ⟨ds, e, rfl⟩ := pur_eq h1
  obtain ⟨a, vs, rfl, e1, e2⟩ := lst_items e b x1.gh
  refine ⟨a, rfl, ⟨vs, e1⟩, hp _ H1 G1 x1 ?_⟩
  rw [if_neg Bool.false_ne_true]
  exact walkD_list (fun H hh => hh.seq e1) e2
theorem fi_range1 {a : Expr} {fa : Env → Option (R (List Sl))} {p pos : Pos} (hm : X.mg "range" = none) (ha : FAB X E [a] fa) (hg : Gl X "range" := by rfl) (hs : starEach [a] X.env = [(false, eval a X.env)] := by rfl) : FI X E fr tg (.Call (.Name "range" p) [a] [] pos) (fRng rng1 fa) :=
  PI_le (pi_range1 hg hm ha hs) fun σ H Q q => by
    obtain ⟨G, ρ, F, r, hs, hr, hp⟩ := q
    refine useAB hs hr (fun C fs e => by subst e; exact hp) fun ss vs H1 G1 h1 x1 bs => ?_
    obtain ⟨ds, e, rfl⟩ := pur_eq h1
    unfold rng1 at e
    split at e
    · rename_i j
      split at e
      · rename_i hc
        cases e
        obtain ⟨v, rfl, b⟩ := bs1 bs
        exact ⟨j, by rw [b.inv_fz.inv_int], hc.1, hc.2, hp _ H1 G1 x1 walkD_range⟩
      · cases e
    · cases e
theorem fi_range2 {a b : Expr} {fa : Env → Option (R (List Sl))} {p pos : Pos} (hm : X.mg "range" = none) (ha : FAB X E [a, b] fa) (hg : Gl X "range" := by rfl) (hs : starEach [a, b] X.env = [(false, eval a X.env), (false, eval b X.env)] := by rfl) (hs2 : starEach [b] X.env = [(false, eval b X.env)] := by rfl) : FI X E fr tg (.Call (.Name "range" p) [a, b] [] pos) (fRng rng2 fa) :=
  PI_le (pi_range2 hg hm ha hs hs2) fun σ H Q q => by
    obtain ⟨G, ρ, F, r, hs, hr, hp⟩ := q
    refine useAB hs hr (fun C fs e => by subst e; exact hp) fun ss vs H1 G1 h1 x1 bs => ?_
    obtain ⟨ds, e, rfl⟩ := pur_eq h1
    unfold rng2 at e
    split at e
    · rename_i i j
      split at e
      · rename_i hc
        cases e
        obtain ⟨v, w, rfl, b, c⟩ := bs2 bs
        exact ⟨i, j, by rw [b.inv_fz.inv_int, c.inv_fz.inv_int], ⟨hc.1.1, hc.1.2, hc.2.1, hc.2.2⟩, hp _ H1 G1 x1 walkD_range⟩
      · cases e
    · cases e
/-- what is walked as frozen may be walked as standing -/
theorem FI.c {fa : Env → Option (R (List D))} (h : FI X E true tg e fa) : FI X E false tg e fa := PI_le h fun σ H Q q => by
  obtain ⟨G, ρ, F, r, hs, hr, hp⟩ := q
  refine ⟨G, ρ, F, r, hs, hr, ?_⟩
  cases r with
  | val ds => exact fun J H' G' x w => hp J H' G' x (by rw [if_pos rfl] at w; rw [if_neg Bool.false_ne_true]; exact w.mono x.gh)
  | ex C fs => exact hp
end

/-! ### 18. targets -/
def clr (F : Nat → List Addr) (i : Nat) : Nat → List Addr := fun k => if k = i then [] else F k
def put (F : Nat → List Addr) (i : Nat) (fp : List Addr) : Nat → List Addr := fun k => if k = i then fp else F k
section
variable {K : PySem.W.Frag} {G H : Hp} {σ : L2.St} {ρ : Env} {F : Nat → List Addr}
/-- a slot is stored to, by what is one's own -/
theorem SE.put {v : V} {s : Sl} {fp : List Addr} (e : SE K G H σ ρ F) (i : Nat) (hi : i < ρ.length) (r : RpS K G H (some v) s fp) (hf : ∀ p ∈ fp, G p = none ∧ ∀ j, j ≠ i → p ∉ F j) : SE K G H (σ.set i (some v)) (ρ.set i s) (FN.put F i fp) where
  gh := e.gh
  len := by simp [e.len]
  sl := fun j s' hs => by
    rw [List.getElem?_set] at hs
    by_cases q : i = j
    · subst q
      rw [if_pos rfl, if_pos hi] at hs
      cases hs
      refine ⟨some v, by rw [List.getElem?_set_self (by rw [e.len]; exact hi)], ?_⟩
      unfold FN.put; rw [if_pos rfl]; exact r
    · rw [if_neg q] at hs
      obtain ⟨o, h1, h2⟩ := e.sl j s' hs
      refine ⟨o, by rw [List.getElem?_set_ne q]; exact h1, ?_⟩
      unfold FN.put; rw [if_neg (fun z => q z.symm)]; exact h2
  out := fun j hj => by
    unfold FN.put
    rw [List.length_set] at hj
    rw [if_neg (by omega)]
    exact e.out j hj
  own := fun j p hp => by
    unfold FN.put at hp
    by_cases q : j = i
    · rw [if_pos q] at hp; exact ⟨(hf p hp).1, r.mem_ne p hp⟩
    · rw [if_neg q] at hp; exact e.own j p hp
  dis := fun j k p hj hk => by
    unfold FN.put at hj hk
    by_cases qj : j = i
    · by_cases qk : k = i
      · rw [qj, qk]
      · rw [if_pos qj] at hj; rw [if_neg qk] at hk; exact absurd hk ((hf p hj).2 k qk)
    · by_cases qk : k = i
      · rw [if_neg qj] at hj; rw [if_pos qk] at hk; exact absurd hj ((hf p hk).2 j qj)
      · rw [if_neg qj] at hj; rw [if_neg qk] at hk; exact e.dis j k p hj hk
theorem SE.put_out {v : V} {s : Sl} (e : SE K G H σ ρ F) (i : Nat) (hi : ¬ i < ρ.length) : SE K G H (σ.set i (some v)) (ρ.set i s) F := by
  have h1 : σ.set i (some v) = σ := List.set_eq_of_length_le (by rw [e.len]; omega)
  have h2 : ρ.set i s = ρ := List.set_eq_of_length_le (by omega)
  rw [h1, h2]; exact e
/-- what slot i owned is let go, or it is not more than before -/
def Less (F F' : Nat → List Addr) : Prop := ∀ i p, p ∈ F' i → p ∈ F i
theorem SE.putz {v : V} {d : D} (e : SE K G H σ ρ F) (i : Nat) (r : Rp K G v d) : ∃ F', SE K G H (σ.set i (some v)) (ρ.set i (.fz d)) F' ∧ Less F F' := by
  by_cases hi : i < ρ.length
  · refine ⟨_, e.put i hi ⟨rfl, v, rfl, r⟩ (fun p hp => by simp at hp), fun j p hp => ?_⟩
    unfold FN.put at hp
    by_cases q : j = i
    · rw [if_pos q] at hp; simp at hp
    · rw [if_neg q] at hp; exact hp
  · exact ⟨F, e.put_out i hi, fun _ _ h => h⟩
def wipeD (ρ : Env) : List Nat → Env
  | [] => ρ
  | v :: vs => (wipeD ρ vs).set v .un
theorem SE.un (e : SE K G H σ ρ F) (i : Nat) : ∃ F', SE K G H (σ.set i none) (ρ.set i .un) F' ∧ Less F F' := by
  by_cases hi : i < ρ.length
  · refine ⟨clr F i, ⟨e.gh, by simp [e.len], fun j s' hs => ?_, fun j hj => ?_, fun j p hp => ?_, fun j k p hj hk => ?_⟩, fun j p hp => ?_⟩
    · rw [List.getElem?_set] at hs
      by_cases q : i = j
      · subst q
        rw [if_pos rfl, if_pos hi] at hs
        cases hs
        exact ⟨none, by rw [List.getElem?_set_self (by rw [e.len]; exact hi)], by unfold clr; rw [if_pos rfl]; rfl⟩
      · rw [if_neg q] at hs
        obtain ⟨o, h1, h2⟩ := e.sl j s' hs
        exact ⟨o, by rw [List.getElem?_set_ne q]; exact h1, by unfold clr; rw [if_neg (fun z => q z.symm)]; exact h2⟩
    · unfold clr
      rw [List.length_set] at hj
      rw [if_neg (by omega)]
      exact e.out j hj
    · unfold clr at hp
      by_cases q : j = i
      · rw [if_pos q] at hp; simp at hp
      · rw [if_neg q] at hp; exact e.own j p hp
    · unfold clr at hj hk
      by_cases qj : j = i
      · rw [if_pos qj] at hj; simp at hj
      · by_cases qk : k = i
        · rw [if_pos qk] at hk; simp at hk
        · rw [if_neg qj] at hj; rw [if_neg qk] at hk; exact e.dis j k p hj hk
    · unfold clr at hp
      by_cases q : j = i
      · rw [if_pos q] at hp; simp at hp
      · rw [if_neg q] at hp; exact hp
  · refine ⟨F, ?_, fun _ _ h => h⟩
    have h1 : σ.set i none = σ := List.set_eq_of_length_le (by rw [e.len]; omega)
    have h2 : ρ.set i .un = ρ := List.set_eq_of_length_le (by omega)
    rw [h1, h2]; exact e
theorem SE.wiped (e : SE K G H σ ρ F) : ∀ vs : List Nat, ∃ F', SE K G H (wipe σ vs) (wipeD ρ vs) F' ∧ Less F F'
  | [] => ⟨F, e, fun _ _ h => h⟩
  | v :: vs => by
    obtain ⟨F1, e1, l1⟩ := e.wiped vs
    obtain ⟨F2, e2, l2⟩ := e1.un v
    exact ⟨F2, e2, fun i p h => l1 i p (l2 i p h)⟩
end
theorem wipe_set_in {τ : L2.St} {i : Nat} {o : Option V} : ∀ {vs : List Nat}, i ∈ vs → wipe (τ.set i o) vs = wipe τ vs
  | v :: vs, h => by
    unfold wipe
    by_cases q : i ∈ vs
    · rw [wipe_set_in q]
    · have : i = v := by
        rcases List.mem_cons.mp h with h | h
        · exact h
        · exact absurd h q
      subst this
      have : ∀ (ws : List Nat), i ∉ ws → wipe (τ.set i o) ws = (wipe τ ws).set i o := fun ws => by
        induction ws with
        | nil => intro _; rfl
        | cons w ws ih =>
          intro hw
          unfold wipe
          rw [ih (fun z => hw (List.mem_cons_of_mem _ z)), List.set_comm]
          exact fun z => hw (by rw [z]; exact List.mem_cons_self ..)
      rw [this vs q, List.set_set]
theorem wipe_sub (τ : L2.St) : ∀ (ws vs : List Nat), (∀ w ∈ ws, w ∈ vs) → wipe (wipe τ ws) vs = wipe τ vs
  | [], vs, _ => rfl
  | w :: ws, vs, h => by
    show wipe ((wipe τ ws).set w none) vs = _
    rw [wipe_set_in (h w (List.mem_cons_self ..)), wipe_sub τ ws vs fun z hz => h z (List.mem_cons_of_mem _ hz)]
theorem wipe_wipe (τ : L2.St) (vs : List Nat) : wipe (wipe τ vs) vs = wipe τ vs := wipe_sub τ vs vs fun _ h => h
/-- a target, by what it makes of the slots -/
def FG (X : Cx) (tg : Expr) (gd : D → Env → Option Env) (vs : List Nat) : Prop :=
  ∃ g, PG X tg g ∧ ∀ v σ H G ρ F d ρ' (Q : L2.St → Hp → Prop), SE X.K G H σ ρ F → Rp X.K G v d → gd d ρ = some ρ' →
    (∀ σ' F', SE X.K G H σ' ρ' F' → Less F F' → wipe σ' vs = wipe σ vs → Q σ' H) → g v σ H Q
def gdN (i : Nat) : D → Env → Option Env := fun d ρ => some (ρ.set i (.fz d))
def gdT2 (i j : Nat) : D → Env → Option Env := fun d ρ => match d with
  | .tup [a, b] => some ((ρ.set i (.fz a)).set j (.fz b))
  | _ => none
def gdT3 (i j k : Nat) : D → Env → Option Env := fun d ρ => match d with
  | .tup [a, b, c] => some (((ρ.set i (.fz a)).set j (.fz b)).set k (.fz c))
  | _ => none
def gdT4 (i j k l : Nat) : D → Env → Option Env := fun d ρ => match d with
  | .tup [a, b, c, e] => some ((((ρ.set i (.fz a)).set j (.fz b)).set k (.fz c)).set l (.fz e))
  | _ => none
section
variable {X : Cx}
theorem fg_name {i : Nat} {x : Str} {pos : Pos} (h : PG X (.Name x pos) (gName i)) : FG X (.Name x pos) (gdN i) [i] := ⟨_, h, fun v σ H G ρ F d ρ' Q hs r e k => by
  cases e
  obtain ⟨F', h1, h2⟩ := hs.putz i r
  exact k _ F' h1 h2 (wipe_set_in (List.mem_cons_self ..))⟩
theorem fg_tup2 {i j : Nat} {es : List Expr} {kk : Nat} {pos : Pos} (hc : X.calm = true) (h : PGs X es (gCons (gName i) (gCons (gName j) gNil))) (hp : PG X (.Tuple es kk pos) (gTup X.K 2 (gCons (gName i) (gCons (gName j) gNil)))) : FG X (.Tuple es kk pos) (gdT2 i j) [i, j] := ⟨_, hp, fun v σ H G ρ F d ρ' Q hs r e k => by
  unfold gdT2 at e
  split at e
  · rename_i a b
    cases e
    obtain ⟨p, vs, rfl, h1, h2⟩ := r.inv_tup
    obtain ⟨x, _, rfl, r1, h3⟩ := h2.cons_r
    obtain ⟨y, _, rfl, r2, h4⟩ := h3.cons_r
    obtain rfl := h4.nil_r
    obtain ⟨F1, e1, l1⟩ := hs.putz i r1
    obtain ⟨F2, e2, l2⟩ := e1.putz j r2
    refine ⟨p, _, rfl, .of (hs.gh _ _ h1), rfl, x, [y], rfl, y, [], rfl, rfl, k _ F2 e2 (fun i p h => l1 i p (l2 i p h)) ?_⟩
    rw [wipe_set_in (by simp), wipe_set_in (by simp)]
  · cases e⟩
theorem fg_tup3 {i j l : Nat} {es : List Expr} {kk : Nat} {pos : Pos} (hp : PG X (.Tuple es kk pos) (gTup X.K 3 (gCons (gName i) (gCons (gName j) (gCons (gName l) gNil))))) : FG X (.Tuple es kk pos) (gdT3 i j l) [i, j, l] := ⟨_, hp, fun v σ H G ρ F d ρ' Q hs r e k => by
  unfold gdT3 at e
  split at e
  · rename_i a b c
    cases e
    obtain ⟨p, vs, rfl, h1, h2⟩ := r.inv_tup
    obtain ⟨x, _, rfl, r1, h3⟩ := h2.cons_r
    obtain ⟨y, _, rfl, r2, h4⟩ := h3.cons_r
    obtain ⟨z, _, rfl, r3, h5⟩ := h4.cons_r
    obtain rfl := h5.nil_r
    obtain ⟨F1, e1, l1⟩ := hs.putz i r1
    obtain ⟨F2, e2, l2⟩ := e1.putz j r2
    obtain ⟨F3, e3, l3⟩ := e2.putz l r3
    refine ⟨p, _, rfl, .of (hs.gh _ _ h1), rfl, x, [y, z], rfl, y, [z], rfl, z, [], rfl, rfl, k _ F3 e3 (fun i p h => l1 i p (l2 i p (l3 i p h))) ?_⟩
    rw [wipe_set_in (by simp), wipe_set_in (by simp), wipe_set_in (by simp)]
  · cases e⟩
theorem fg_tup4 {i j l m : Nat} {es : List Expr} {kk : Nat} {pos : Pos} (hp : PG X (.Tuple es kk pos) (gTup X.K 4 (gCons (gName i) (gCons (gName j) (gCons (gName l) (gCons (gName m) gNil)))))) : FG X (.Tuple es kk pos) (gdT4 i j l m) [i, j, l, m] := ⟨_, hp, fun v σ H G ρ F d ρ' Q hs r e k => by
  unfold gdT4 at e
  split at e
  · rename_i a b c d'
    cases e
    obtain ⟨p, vs, rfl, h1, h2⟩ := r.inv_tup
    obtain ⟨x, _, rfl, r1, h3⟩ := h2.cons_r
    obtain ⟨y, _, rfl, r2, h4⟩ := h3.cons_r
    obtain ⟨z, _, rfl, r3, h5⟩ := h4.cons_r
    obtain ⟨w, _, rfl, r4, h6⟩ := h5.cons_r
    obtain rfl := h6.nil_r
    obtain ⟨F1, e1, l1⟩ := hs.putz i r1
    obtain ⟨F2, e2, l2⟩ := e1.putz j r2
    obtain ⟨F3, e3, l3⟩ := e2.putz l r3
    obtain ⟨F4, e4, l4⟩ := e3.putz m r4
    refine ⟨p, _, rfl, .of (hs.gh _ _ h1), rfl, x, [y, z, w], rfl, y, [z, w], rfl, z, [w], rfl, w, [], rfl, rfl, k _ F4 e4 (fun i p h => l1 i p (l2 i p (l3 i p (l4 i p h)))) ?_⟩
    rw [wipe_set_in (by simp), wipe_set_in (by simp), wipe_set_in (by simp), wipe_set_in (by simp)]
  · cases e⟩
end

/-! ### 19. comprehensions -/
def lcGo (ρ : Env) (gd : D → Env → Option Env) (t : Env → Option (R Bool)) (e : Env → Option (R Sl)) : List D → Option (List D)
  | [] => some []
  | d :: ds => (gd d ρ).bind fun ρ' => match t ρ' with
    | some (.val true) => match frD (e ρ') with
      | some (.val x) => (lcGo ρ gd t e ds).map (x :: ·)
      | _ => none
    | some (.val false) => lcGo ρ gd t e ds
    | _ => none
def fLc (it : Env → Option (R (List D))) (vs : List Nat) (gd : D → Env → Option Env) (t : Env → Option (R Bool)) (e : Env → Option (R Sl)) : Env → Option (R Sl) := fun ρ => bnd (it ρ) fun ds =>
  if ds.length ≤ 100000 then (lcGo (wipeD ρ vs) gd t e ds).map fun out => .val (.oL out) else none
abbrev Ez : L2.St → XK := fun _ _ _ _ => False
def fYes : Env → Option (R Bool) := fun _ => some (.val true)
def FTs (X : Cx) (E : L2.St → XK) (es : List Expr) (f : Env → Option (R Bool)) : Prop := PTs X es (tFT X.K E f)
section
variable {X : Cx} {E : L2.St → XK}
theorem fts_nil : FTs X E [] fYes := ⟨fun pins s σ H Q I hw => by
  obtain ⟨G, ρ, F, r, hs, hr, hp⟩ := hw
  cases hr
  exact pts_nil.run pins s σ H Q I (hp H G (.refl hs.gh))⟩
theorem fts_one {c : Expr} {f : Env → Option (R Bool)} (h : FT X E c f) : FTs X E [c] f := pts_one h
theorem lc_core {K : PySem.W.Frag} {it : Env → Option (R (List D))} {vs : List Nat} {gd : D → Env → Option Env} {t : Env → Option (R Bool)} {e : Env → Option (R Sl)} {g : TG}
    (hg : ∀ v σ H G ρ F d ρ' (Q : L2.St → Hp → Prop), SE K G H σ ρ F → Rp K G v d → gd d ρ = some ρ' → (∀ σ' F', SE K G H σ' ρ' F' → Less F F' → wipe σ' vs = wipe σ vs → Q σ' H) → g v σ H Q)
    {σ H Q} (h : tFE K E (fLc it vs gd t e) σ H Q) : tLc (tFI K E false it) g (tFT K Ez t) (tFE K Ez e) vs σ H Q := by
  obtain ⟨G, ρ, F, r, hs, hr, hp⟩ := h
  unfold fLc at hr
  cases q : it ρ with
  | none => rw [q] at hr; cases hr
  | some x =>
    rw [q] at hr
    cases x with
    | ex C fs => cases hr; exact ⟨G, ρ, F, _, hs, q, hp⟩
    | val ds =>
      rw [bnd_val] at hr
      split at hr
      · rename_i hz
        cases q2 : lcGo (wipeD ρ vs) gd t e ds with
        | none => rw [q2] at hr; cases hr
        | some out =>
          rw [q2] at hr; cases hr
          refine ⟨G, ρ, F, _, hs, q, fun J H1 G1 x1 w D nD => ?_⟩
          rw [if_neg Bool.false_ne_true] at w
          obtain ⟨Y, wk, wy⟩ := w
          have gD : G1 D = none := x1.gh.free nD
          refine lc_it wk (fun i H => ∃ Gc us accD rest, Xt G1 H1 Gc H ∧ Gc D = none ∧ H D = some (.lst us) ∧ Rps K Gc us accD ∧ accD.length ≤ i ∧ lcGo (wipeD ρ vs) gd t e (ds.drop i) = some rest ∧ accD ++ rest = out) ?_ ?_ ?_ ?_
          · exact ⟨G1, [], [], out, xt_newH x1.gh nD _, gD, upd_same, All2.nil, Nat.zero_le _, by rw [List.drop_zero]; exact q2, rfl⟩
          · rintro i H2 hi ⟨Gc, vs', acc, rest, xx, _⟩
            exact xx.h
          · rintro i x H2 H3 hi ⟨Gc, vs', acc, rest, xx, gcD, hD, ra, hl, hgo, hout⟩ y
            have hd : ∃ d, ds[i]? = some d := ⟨ds[i], by simp [hi]⟩
            obtain ⟨d, hd⟩ := hd
            obtain ⟨Gc', xx2, rx⟩ := wy i H2 x H3 d Gc hd xx.g xx.gh xx.h y
            have hdrop : ds.drop i = d :: ds.drop (i + 1) := by
              have h1 : i < ds.length := hi
              rw [List.drop_eq_getElem_cons h1]
              rw [List.getElem?_eq_getElem h1] at hd
              cases hd; rfl
            rw [hdrop] at hgo
            unfold lcGo at hgo
            cases q3 : gd d (wipeD ρ vs) with
            | none => rw [q3] at hgo; cases hgo
            | some ρ' =>
              rw [q3, Option.bind_some] at hgo
              have sA := ((hs.xt x1).xt xx).xt xx2
              obtain ⟨Fw, sW, _⟩ := sA.wiped vs
              refine hg x (wipe σ vs) H3 Gc' (wipeD ρ vs) Fw d ρ' _ sW rx q3 fun σ2 F2 s2 _ hw => ⟨?_, ?_⟩
              · rw [hw, wipe_wipe]
              · have gD2 : Gc' D = none := (xx2.old D (nt_of hD)).trans gcD
                have hD2 : H3 D = some (.lst vs') := xx2.h _ _ hD
                split at hgo
                · rename_i qt
                  refine ⟨Gc', ρ', F2, _, s2, qt, fun H4 G4 x4 => ?_⟩
                  dsimp only
                  rw [if_pos rfl]
                  split at hgo
                  · rename_i dx qe
                    have qe' : bnd (frD (e ρ')) (fun d => some (R.val d)) = some (.val dx) := by rw [qe]; rfl
                    refine useD (E := Ez) (s2.xt x4) qe' (fun _ _ z => nomatch z) fun d' v H5 G5 h5 x5 r5 => ?_
                    cases h5
                    have hD4 : H4 D = some (.lst vs') := x4.h _ _ hD2
                    have gD4 : G4 D = none := (x4.old D (nt_of hD2)).trans gD2
                    have hD5 : H5 D = some (.lst vs') := x5.h _ _ hD4
                    have gD5 : G5 D = none := (x5.old D (nt_of hD4)).trans gD4
                    cases q4 : lcGo (wipeD ρ vs) gd t e (ds.drop (i + 1)) with
                    | none => rw [q4] at hgo; cases hgo
                    | some rest' =>
                      rw [q4] at hgo; cases hgo
                      have xall := ((xx.trans xx2).trans x4).trans x5
                      refine ⟨vs', hD5, ?_, G5, vs' ++ [v], acc ++ [dx], rest', ?_, gD5, upd_same, ?_, ?_, rfl, ?_⟩
                      · rw [ra.1]
                        exact Nat.lt_of_le_of_lt (Nat.le_trans hl (Nat.le_of_lt (Nat.lt_of_lt_of_le hi hz))) (by decide)
                      · refine ⟨xall.g, fun b o e => ?_, fun b o e => ?_, xall.old⟩
                        · rw [upd_ne (ne_of_none e nD)]; exact xall.h b o e
                        · rw [upd_ne (ne_of_none e gD5)]; exact xall.gh b o e
                      · exact (Rps.mono ra ((xx2.g.trans x4.g).trans x5.g)).append (All2.cons r5 All2.nil)
                      · simp; omega
                      · rw [← hout]; simp
                  · cases hgo
                · rename_i qt
                  refine ⟨Gc', ρ', F2, _, s2, qt, fun H4 G4 x4 => ?_⟩
                  dsimp only
                  rw [if_neg Bool.false_ne_true]
                  have hD4 : H4 D = some (.lst vs') := x4.h _ _ hD2
                  have gD4 : G4 D = none := (x4.old D (nt_of hD2)).trans gD2
                  exact ⟨G4, vs', acc, rest, (xx.trans xx2).trans x4, gD4, hD4, Rps.mono ra (xx2.g.trans x4.g), Nat.le_succ_of_le hl, hgo, hout⟩
                · cases hgo
          · rintro H2 ⟨Gc, vs', acc, rest, xx, gcD, hD, ra, hl, hgo, hout⟩
            rw [List.drop_length] at hgo
            cases hgo
            rw [List.append_nil] at hout
            subst hout
            refine hp _ H2 Gc (x1.trans xx) ⟨[D], ⟨D, vs', rfl, rfl, hD, ra⟩, fun q hq => ?_⟩
            simp at hq; subst hq
            exact ⟨x1.h.free nD, gcD⟩
      · cases hr
/-- [e for tg in it if t] -/
theorem fe_lc {elt tg iter : Expr} {ifs : List Expr} {scope : Scope} {own : List (Str × Nat)} {pos : Pos} {it : Env → Option (R (List D))} {gd : D → Env → Option Env} {t : Env → Option (R Bool)} {e : Env → Option (R Sl)} {g : TG}
    (hc : X.calm = true) (hN : X.N.Nodup) (hi : FI X E false tg iter it) (ok : BlkOk X.N X.env.scope scope own)
    (hg : ∀ (s : Shared) (H : Hp) (C : Addr) (cl : List (Str × Addr)) (fp : List Addr), PG (X.blk s H scope (compEnvC scope cl C X.env) fp) tg g)
    (hgd : ∀ v σ H G ρ F d ρ' (Q : L2.St → Hp → Prop), SE X.K G H σ ρ F → Rp X.K G v d → gd d ρ = some ρ' → (∀ σ' F', SE X.K G H σ' ρ' F' → Less F F' → wipe σ' (own.map (·.2)) = wipe σ (own.map (·.2)) → Q σ' H) → g v σ H Q)
    (ht : ∀ (s : Shared) (H : Hp) (C : Addr) (cl : List (Str × Addr)) (fp : List Addr), FTs (X.blk s H scope (compEnvC scope cl C X.env) fp) Ez ifs t)
    (he : ∀ (s : Shared) (H : Hp) (C : Addr) (cl : List (Str × Addr)) (fp : List Addr), FE (X.blk s H scope (compEnvC scope cl C X.env) fp) Ez elt e) (hs : ∀ x, foldedSetIterable iter X.env x = pure x := by intro _; rfl) :
    FE X E (.ListComp elt [⟨tg, iter, ifs, 0⟩] scope pos) (fLc it (own.map (·.2)) gd t e) :=
  PE_le (pe_lc (tt := tFT X.K Ez t) (te := tFE X.K Ez e) hc hN hi ok hg ht he hs) fun σ H Q h => lc_core hgd h
theorem gdN_ok {K : PySem.W.Frag} {i : Nat} : ∀ v σ H G ρ F d ρ' (Q : L2.St → Hp → Prop), SE K G H σ ρ F → Rp K G v d → gdN i d ρ = some ρ' → (∀ σ' F', SE K G H σ' ρ' F' → Less F F' → wipe σ' [i] = wipe σ [i] → Q σ' H) → gName i v σ H Q := fun v σ H G ρ F d ρ' Q hs r e k => by
  cases e
  obtain ⟨F', h1, h2⟩ := hs.putz i r
  exact k _ F' h1 h2 (wipe_set_in (List.mem_cons_self ..))
theorem gdT2_ok {K : PySem.W.Frag} {i j : Nat} : ∀ v σ H G ρ F d ρ' (Q : L2.St → Hp → Prop), SE K G H σ ρ F → Rp K G v d → gdT2 i j d ρ = some ρ' → (∀ σ' F', SE K G H σ' ρ' F' → Less F F' → wipe σ' [i, j] = wipe σ [i, j] → Q σ' H) → gTup K 2 (gCons (gName i) (gCons (gName j) gNil)) v σ H Q := fun v σ H G ρ F d ρ' Q hs r e k => by
  unfold gdT2 at e
  split at e
  · rename_i a b
    cases e
    obtain ⟨p, vs, rfl, h1, h2⟩ := r.inv_tup
    obtain ⟨x, _, rfl, r1, h3⟩ := h2.cons_r
    obtain ⟨y, _, rfl, r2, h4⟩ := h3.cons_r
    obtain rfl := h4.nil_r
    obtain ⟨F1, e1, l1⟩ := hs.putz i r1
    obtain ⟨F2, e2, l2⟩ := e1.putz j r2
    refine ⟨p, _, rfl, .of (hs.gh _ _ h1), rfl, x, [y], rfl, y, [], rfl, rfl, k _ F2 e2 (fun i p h => l1 i p (l2 i p h)) ?_⟩
    rw [wipe_set_in (by simp), wipe_set_in (by simp)]
  · cases e
end
end FN

set_option Elab.async false
set_option linter.all false
set_option maxRecDepth 100000
set_option maxHeartbeats 1000000
/-! FN, part F: statements, defs. -/
namespace FN
open PySem PySem.Spec PyProof.Rows L2

inductive Out where
  | nx (ρ : Env) | rt (s : Sl) | bk (ρ : Env) | ct (ρ : Env) | ex (C : Addr) (fs : Option (List (Str × D)))
def bndS {α : Type} (r : Option (R α)) (k : α → Option Out) : Option Out :=
  match r with
  | some (.val a) => k a
  | some (.ex C fs) => some (.ex C fs)
  | none => none
@[simp] theorem bndS_val {α : Type} {a : α} {k : α → Option Out} : bndS (some (.val a)) k = k a := rfl
@[simp] theorem bndS_ex {α : Type} {C fs} {k : α → Option Out} : bndS (some (.ex C fs)) k = some (.ex C fs) := rfl
@[simp] theorem bndS_none {α : Type} {k : α → Option Out} : bndS none k = none := rfl

/-- since the entry (B what stood, G0 what was frozen) -/
structure BS (B G0 G H : Hp) (F : Nat → List Addr) : Prop where
  x : Xt G0 B G H
  o : ∀ i p, p ∈ F i → B p = none
def PoS (K : PySem.W.Frag) (E : L2.St → XK) (B G0 G : Hp) (D : Ends) : Out → Prop
  | .nx ρ' => ∀ σ' H' G' F', SE K G' H' σ' ρ' F' → BS B G0 G' H' F' → Same G G' → D.nx σ' H'
  | .bk ρ' => ∀ σ' H' G' F', SE K G' H' σ' ρ' F' → BS B G0 G' H' F' → Same G G' → D.bk σ' H'
  | .ct ρ' => ∀ σ' H' G' F', SE K G' H' σ' ρ' F' → BS B G0 G' H' F' → Same G G' → D.ct σ' H'
  | .rt s => ∀ v H' G', Xt G0 B G' H' → Same G G' → Ow K B G' H' v s → D.rt v H'
  | .ex C fs => ∀ σ' ρ' d H' G' F', SE K G' H' σ' ρ' F' → BS B G0 G' H' F' → Same G G' → ExR K G' H' d fs → E σ' (.ref C) d H'
def tFS (K : PySem.W.Frag) (E : L2.St → XK) (f : Env → Option Out) : TS := fun D σ H => ∃ B G0 G ρ F o, SE K G H σ ρ F ∧ BS B G0 G H F ∧ f ρ = some o ∧ PoS K E B G0 G D o
def FS (X : Cx) (E : L2.St → XK) (st : Stmt) (f : Env → Option Out) : Prop := PS X st (tFS X.K E f)
def FSs (X : Cx) (E : L2.St → XK) (st : List Stmt) (f : Env → Option Out) : Prop := PSs X st (tFS X.K E f)

section
variable {K : PySem.W.Frag} {E : L2.St → XK} {B G0 G G1 H H1 : Hp} {σ : L2.St} {ρ : Env} {F : Nat → List Addr} {D : Ends}
theorem BS.xt (b : BS B G0 G H F) (x : Xt G H G1 H1) : BS B G0 G1 H1 F := ⟨b.x.trans x, b.o⟩
theorem BS.less {F' : Nat → List Addr} (b : BS B G0 G H F) (l : Less F F') : BS B G0 G H F' := ⟨b.x, fun i p h => b.o i p (l i p h)⟩
theorem PoS.mono {o : Out} (h : PoS K E B G0 G D o) (g : Same G G1) : PoS K E B G0 G1 D o := by
  cases o with
  | nx r => exact fun σ' H' G' F' a b c => h σ' H' G' F' a b (g.trans c)
  | bk r => exact fun σ' H' G' F' a b c => h σ' H' G' F' a b (g.trans c)
  | ct r => exact fun σ' H' G' F' a b c => h σ' H' G' F' a b (g.trans c)
  | rt s => exact fun v H' G' a b c => h v H' G' a (g.trans b) c
  | ex C fs => exact fun σ' ρ' d H' G' F' a b c => h σ' ρ' d H' G' F' a b (g.trans c)
theorem PoS.px (hs : SE K G H σ ρ F) (hb : BS B G0 G H F) {o : Out} (h : PoS K E B G0 G D o) : ∀ C fs, o = .ex C fs → PX K (E σ) G H C fs := fun C fs e => by
  subst e
  exact fun d H' G' x r => h σ ρ d H' G' F (hs.xt x) (hb.xt x) x.g r
variable {α : Type} {o : Out}
theorem stE {fa : Env → Option (R Sl)} {k : Sl → Option Out} (hs : SE K G H σ ρ F) (hb : BS B G0 G H F) (hp : PoS K E B G0 G D o) (h : bndS (fa ρ) k = some o) {Q : VK}
    (ct : ∀ s v H1 G1, k s = some o → Xt G H G1 H1 → Ow K H G1 H1 v s → Q v H1) : tFE K E fa σ H Q := by
  cases q : fa ρ with
  | none => rw [q] at h; cases h
  | some x =>
    rw [q] at h
    cases x with
    | val s => exact ⟨G, ρ, F, _, hs, q, fun v H' G' xt b => ct s v H' G' h xt b⟩
    | ex C fs => cases h; exact ⟨G, ρ, F, _, hs, q, hp.px hs hb C fs rfl⟩
theorem stD {fa : Env → Option (R Sl)} {k : FN.D → Option Out} (hs : SE K G H σ ρ F) (hb : BS B G0 G H F) (hp : PoS K E B G0 G D o) (h : bndS (frD (fa ρ)) k = some o) {Q : VK}
    (ct : ∀ d v H1 G1, k d = some o → Xt G H G1 H1 → Rp K G1 v d → Q v H1) : tFE K E fa σ H Q := by
  cases q : fa ρ with
  | none => unfold frD at h; rw [q] at h; cases h
  | some x =>
    unfold frD at h
    rw [q] at h
    cases x with
    | val s =>
      refine ⟨G, ρ, F, _, hs, q, fun v H' G' xt b => ?_⟩
      rw [bnd_val] at h
      cases q2 : s.fr with
      | none => rw [q2] at h; cases h
      | some d =>
        rw [q2] at h
        obtain ⟨fp, r, hf⟩ := b
        obtain ⟨G2, x2, _, r2⟩ := freeze xt r hf q2
        exact ct d v H' G2 h x2 r2
    | ex C fs => cases h; exact ⟨G, ρ, F, _, hs, q, hp.px hs hb C fs rfl⟩
theorem stB {fa : Env → Option (R Sl)} {k : Sl → Option Out} (hs : SE K G H σ ρ F) (hb : BS B G0 G H F) (hp : PoS K E B G0 G D o) (h : bndS (fa ρ) k = some o) {Q : VK}
    (ct : ∀ s v H1 G1, k s = some o → Xt G H G1 H1 → Bw K G1 H1 v s → Q v H1) : tFB K E fa σ H Q := by
  cases q : fa ρ with
  | none => rw [q] at h; cases h
  | some x =>
    rw [q] at h
    cases x with
    | val s => exact ⟨G, ρ, F, _, hs, q, fun v H' G' xt b => ct s v H' G' h xt b⟩
    | ex C fs => cases h; exact ⟨G, ρ, F, _, hs, q, hp.px hs hb C fs rfl⟩
theorem stT {fa : Env → Option (R Bool)} {k : Bool → Option Out} (hs : SE K G H σ ρ F) (hb : BS B G0 G H F) (hp : PoS K E B G0 G D o) (h : bndS (fa ρ) k = some o) {Q : Bool → Hp → Prop}
    (ct : ∀ s H1 G1, k s = some o → Xt G H G1 H1 → Q s H1) : tFT K E fa σ H Q := by
  cases q : fa ρ with
  | none => rw [q] at h; cases h
  | some x =>
    rw [q] at h
    cases x with
    | val s => exact ⟨G, ρ, F, _, hs, q, fun H' G' xt => ct s H' G' h xt⟩
    | ex C fs => cases h; exact ⟨G, ρ, F, _, hs, q, hp.px hs hb C fs rfl⟩
theorem stA {fa : Env → Option (R (List FN.D))} {k : List FN.D → Option Out} (hs : SE K G H σ ρ F) (hb : BS B G0 G H F) (hp : PoS K E B G0 G D o) (h : bndS (fa ρ) k = some o) {Q : List V → Hp → Prop}
    (ct : ∀ s vs H1 G1, k s = some o → Xt G H G1 H1 → Rps K G1 vs s → Q vs H1) : tFA K E fa σ H Q := by
  cases q : fa ρ with
  | none => rw [q] at h; cases h
  | some x =>
    rw [q] at h
    cases x with
    | val s => exact ⟨G, ρ, F, _, hs, q, fun vs H' G' xt r => ct s vs H' G' h xt r⟩
    | ex C fs => cases h; exact ⟨G, ρ, F, _, hs, q, hp.px hs hb C fs rfl⟩
end

/-! ### 20. blocks -/
def fNext : Env → Option Out := fun ρ => some (.nx ρ)
def fSeq (f g : Env → Option Out) : Env → Option Out := fun ρ => match f ρ with
  | some (.nx ρ') => g ρ'
  | r => r
section
variable {X : Cx} {E : L2.St → XK} {st : Stmt} {rest : List Stmt} {f g : Env → Option Out} {pos : Pos} {e : Expr} {fe : Env → Option (R Sl)}
theorem fss_nil : FSs X E [] fNext := PSs_le pss_nil fun D σ H h => by
  obtain ⟨B, G0, G, ρ, F, o, hs, hb, hr, hp⟩ := h
  cases hr
  exact hp σ H G F hs hb (Same.refl _)
theorem fss_one (h : FS X E st f) : FSs X E [st] f := pss_one h
theorem seq_core {K : PySem.W.Frag} {D σ H} (h : tFS K E (fSeq f g) D σ H) : tSeq (tFS K E f) (tFS K E g) D σ H := by
  obtain ⟨B, G0, G, ρ, F, o, hs, hb, hr, hp⟩ := h
  unfold fSeq at hr
  split at hr
  · rename_i ρ' q
    exact ⟨B, G0, G, ρ, F, _, hs, hb, q, fun σ' H' G' F' hs' hb' gg => ⟨B, G0, G', ρ', F', o, hs', hb', hr, hp.mono gg⟩⟩
  · rename_i hn
    refine ⟨B, G0, G, ρ, F, o, hs, hb, hr, ?_⟩
    cases o with
    | nx r => exact absurd hr (hn r)
    | bk r => exact hp
    | ct r => exact hp
    | rt r => exact hp
    | ex r => exact hp
theorem fss_cons (h : FS X E st f) (h2 : FSs X E rest g) : FSs X E (st :: rest) (fSeq f g) := PSs_le (pss_cons h h2) fun D σ H q => seq_core q
theorem fs_pass : FS X E (.Pass pos) fNext := PS_le ps_pass fun D σ H h => by
  obtain ⟨B, G0, G, ρ, F, o, hs, hb, hr, hp⟩ := h
  cases hr
  exact hp σ H G F hs hb (Same.refl _)
def fBrk : Env → Option Out := fun ρ => some (.bk ρ)
def fCont : Env → Option Out := fun ρ => some (.ct ρ)
theorem fs_break : FS X E (.Break pos) fBrk := PS_le ps_break fun D σ H h => by
  obtain ⟨B, G0, G, ρ, F, o, hs, hb, hr, hp⟩ := h
  cases hr
  exact hp σ H G F hs hb (Same.refl _)
theorem fs_continue : FS X E (.Continue pos) fCont := PS_le ps_continue fun D σ H h => by
  obtain ⟨B, G0, G, ρ, F, o, hs, hb, hr, hp⟩ := h
  cases hr
  exact hp σ H G F hs hb (Same.refl _)
/-- e; -/
def fDrop (f : Env → Option (R Sl)) : Env → Option Out := fun ρ => bndS (f ρ) fun _ => some (.nx ρ)
theorem fs_expr (h : PS X st (tDrop (tFE X.K E fe))) : FS X E st (fDrop fe) := PS_le h fun D σ H q => by
  obtain ⟨B, G0, G, ρ, F, o, hs, hb, hr, hp⟩ := q
  refine stE hs hb hp hr fun s v H1 G1 h1 x1 _ => ?_
  cases h1
  exact hp σ H1 G1 F (hs.xt x1) (hb.xt x1) x1.g
/-- x = e; the value is one's own, or frozen -/
def fAsg (i : Nat) (f : Env → Option (R Sl)) : Env → Option Out := fun ρ => bndS (f ρ) fun s => some (.nx (ρ.set i s))
def fAsgZ (i : Nat) (f : Env → Option (R Sl)) : Env → Option Out := fun ρ => bndS (frD (f ρ)) fun d => some (.nx (ρ.set i (.fz d)))
theorem own_put {K : PySem.W.Frag} {B G0 G H G1 H1 : Hp} {σ : L2.St} {ρ : Env} {F : Nat → List Addr} {v : V} {s : Sl} (hs : SE K G H σ ρ F) (hb : BS B G0 G H F) (x1 : Xt G H G1 H1) (w : Ow K H G1 H1 v s) (i : Nat) :
    ∃ F', SE K G1 H1 (σ.set i (some v)) (ρ.set i s) F' ∧ BS B G0 G1 H1 F' := by
  obtain ⟨fp, r, hf⟩ := w
  by_cases hi : i < ρ.length
  · refine ⟨_, (hs.xt x1).put i hi r fun p hp => ⟨(hf p hp).2, fun j _ hj => (hs.own j p hj).2.ne (hf p hp).1⟩, hb.x.trans x1, fun j p hp => ?_⟩
    unfold FN.put at hp
    by_cases q : j = i
    · rw [if_pos q] at hp; exact hb.x.h.free (hf p hp).1
    · rw [if_neg q] at hp; exact hb.o j p hp
  · exact ⟨F, (hs.xt x1).put_out i hi, hb.xt x1⟩
theorem asg_core {K : PySem.W.Frag} {i : Nat} {D σ H} (q : tFS K E (fAsg i fe) D σ H) : tAsg (tFE K E fe) (gName i) D σ H := by
  obtain ⟨B, G0, G, ρ, F, o, hs, hb, hr, hp⟩ := q
  refine stE hs hb hp hr fun s v H1 G1 h1 x1 w => ?_
  cases h1
  obtain ⟨F', a, b⟩ := own_put hs hb x1 w i
  exact hp _ H1 G1 F' a b x1.g
theorem asgZ_core {K : PySem.W.Frag} {i : Nat} {D σ H} (q : tFS K E (fAsgZ i fe) D σ H) : tAsg (tFE K E fe) (gName i) D σ H := by
  obtain ⟨B, G0, G, ρ, F, o, hs, hb, hr, hp⟩ := q
  refine stD hs hb hp hr fun d v H1 G1 h1 x1 r => ?_
  cases h1
  obtain ⟨F', a, b⟩ := (hs.xt x1).putz i r
  exact hp _ H1 G1 F' a ((hb.xt x1).less b) x1.g
theorem fs_asg {i : Nat} (h : PS X st (tAsg (tFE X.K E fe) (gName i))) : FS X E st (fAsg i fe) := PS_le h fun D σ H q => asg_core q
theorem fs_asgZ {i : Nat} (h : PS X st (tAsg (tFE X.K E fe) (gName i))) : FS X E st (fAsgZ i fe) := PS_le h fun D σ H q => asgZ_core q
/-- x = [.. for ..] -/
theorem asgLc_core {K : PySem.W.Frag} {i : Nat} {it : Env → Option (R (List FN.D))} {vs : List Nat} {gd : FN.D → Env → Option Env} {t : Env → Option (R Bool)} {e : Env → Option (R Sl)} {g : TG}
    (hg : ∀ v σ H G ρ F d ρ' (Q : L2.St → Hp → Prop), SE K G H σ ρ F → Rp K G v d → gd d ρ = some ρ' → (∀ σ' F', SE K G H σ' ρ' F' → Less F F' → wipe σ' vs = wipe σ vs → Q σ' H) → g v σ H Q) {D σ H}
    (h : tAsg (tFE K E (fLc it vs gd t e)) (gName i) D σ H) : tAsg (tLc (tFI K E false it) g (tFT K Ez t) (tFE K Ez e) vs) (gName i) D σ H := lc_core hg h
theorem fs_setLc {i : Nat} {y : Str} {py : Pos} {elt tg iter : Expr} {ifs : List Expr} {scope : Scope} {own : List (Str × Nat)} {pos spos : Pos} {it : Env → Option (R (List FN.D))} {gd : FN.D → Env → Option Env} {t : Env → Option (R Bool)} {e : Env → Option (R Sl)} {g : TG}
    (hc : X.calm = true) (hN : X.N.Nodup) (hy : X.N[i]? = some y) (hyl : X.env.scope.names.lookup y = some .local)
    (hsw : swapsWith (.ListComp elt [⟨tg, iter, ifs, 0⟩] scope pos) (some (.Name y py)) spos.line X.env = pure true) (hi : FI X E false tg iter it) (ok : BlkOk X.N X.env.scope scope own)
    (hg : ∀ (s : Shared) (H : Hp) (C : Addr) (cl : List (Str × Addr)) (fp : List Addr), PG (X.blk s H scope (compEnvC scope cl C X.env) fp) tg g)
    (hgd : ∀ v σ H G ρ F d ρ' (Q : L2.St → Hp → Prop), SE X.K G H σ ρ F → Rp X.K G v d → gd d ρ = some ρ' → (∀ σ' F', SE X.K G H σ' ρ' F' → Less F F' → wipe σ' (own.map (·.2)) = wipe σ (own.map (·.2)) → Q σ' H) → g v σ H Q)
    (ht : ∀ (s : Shared) (H : Hp) (C : Addr) (cl : List (Str × Addr)) (fp : List Addr), FTs (X.blk s H scope (compEnvC scope cl C X.env) fp) Ez ifs t)
    (he : ∀ (s : Shared) (H : Hp) (C : Addr) (cl : List (Str × Addr)) (fp : List Addr), FE (X.blk s H scope (compEnvC scope cl C X.env) fp) Ez elt e) (hs : ∀ x, foldedSetIterable iter X.env x = pure x := by intro _; rfl) :
    PS X (.Assign [.Name y py] (.ListComp elt [⟨tg, iter, ifs, 0⟩] scope pos) spos) (tAsg (tFE X.K E (fLc it (own.map (·.2)) gd t e)) (gName i)) :=
  PS_le (ps_setLc (tt := tFT X.K Ez t) (te := tFE X.K Ez e) hc hN hy hyl hsw hi ok hg ht he hs) fun D σ H h => asgLc_core hgd h
/-- a, b = e -/
def fAsgG (gd : FN.D → Env → Option Env) (f : Env → Option (R Sl)) : Env → Option Out := fun ρ => bndS (frD (f ρ)) fun d => (gd d ρ).map .nx
theorem fs_asgG {g : TG} {gd : FN.D → Env → Option Env} {vs : List Nat} (h : PS X st (tAsg (tFE X.K E fe) g))
    (hgd : ∀ v σ H G ρ F d ρ' (Q : L2.St → Hp → Prop), SE X.K G H σ ρ F → Rp X.K G v d → gd d ρ = some ρ' → (∀ σ' F', SE X.K G H σ' ρ' F' → Less F F' → wipe σ' vs = wipe σ vs → Q σ' H) → g v σ H Q) : FS X E st (fAsgG gd fe) := PS_le h fun D σ H q => by
  obtain ⟨B, G0, G, ρ, F, o, hs, hb, hr, hp⟩ := q
  refine stD hs hb hp hr fun d v H1 G1 h1 x1 r => ?_
  cases q : gd d ρ with
  | none => rw [q] at h1; cases h1
  | some ρ' =>
    rw [q] at h1; cases h1
    exact hgd v σ H1 G1 ρ F d ρ' _ (hs.xt x1) r q fun σ' F' a b _ => hp σ' H1 G1 F' a ((hb.xt x1).less b) x1.g
/-- a, b = e1, e2 -/
def fPar (i j : Nat) (f : Env → Option (R (List FN.D))) : Env → Option Out := fun ρ => bndS (f ρ) fun ds => match ds with
  | [a, b] => some (.nx ((ρ.set i (.fz a)).set j (.fz b)))
  | _ => none
theorem fs_par {i j : Nat} {fa : Env → Option (R (List FN.D))} (h : PS X st (tPar i j (tFA X.K E fa))) : FS X E st (fPar i j fa) := PS_le h fun D σ H q => by
  obtain ⟨B, G0, G, ρ, F, o, hs, hb, hr, hp⟩ := q
  refine stA hs hb hp hr fun ds vs H1 G1 h1 x1 r => ?_
  split at h1
  · cases h1
    obtain ⟨v, _, rfl, r1, h2⟩ := r.cons_r
    obtain ⟨w, _, rfl, r2, h3⟩ := h2.cons_r
    obtain rfl := h3.nil_r
    obtain ⟨F1, e1, l1⟩ := (hs.xt x1).putz i r1
    obtain ⟨F2, e2, l2⟩ := e1.putz j r2
    exact ⟨v, w, rfl, hp _ H1 G1 F2 e2 (((hb.xt x1).less l1).less l2) x1.g⟩
  · cases h1
/-- x += e, ints -/
def fAug (i : Nat) (op : Int → Int → Int) (f : Env → Option (R Sl)) : Env → Option Out := fun ρ => match ρ[i]? with
  | some (.fz (.int a)) => bndS (frD (f ρ)) fun d => match d with
    | .int b => some (.nx (ρ.set i (.fz (.int (op a b)))))
    | _ => none
  | _ => none
theorem fs_aug {i : Nat} {op : Int → Int → Int} (h : PS X st (tAug i (tFE X.K E fe) (ipI op))) : FS X E st (fAug i op fe) := PS_le h fun D σ H q => by
  obtain ⟨B, G0, G, ρ, F, o, hs, hb, hr, hp⟩ := q
  unfold fAug at hr
  split at hr
  · rename_i a qa
    obtain ⟨w, h1, _, v, rfl, h3⟩ := hs.sl i _ qa
    rw [h3.inv_int] at h1
    refine ⟨.int a, h1, ?_⟩
    refine stD hs hb hp hr fun d v H1 G1 h1 x1 r => ?_
    split at h1
    · rename_i b
      cases h1
      obtain ⟨F', e1, l1⟩ := (hs.xt x1).putz i (v := .int (op a b)) .int
      exact ⟨a, b, rfl, r.inv_int, hp _ H1 G1 F' e1 ((hb.xt x1).less l1) x1.g⟩
    · cases h1
  · cases hr
/-- if -/
def fIfS (t : Env → Option (R Bool)) (f g : Env → Option Out) : Env → Option Out := fun ρ => bndS (t ρ) fun b => if b = true then f ρ else g ρ
theorem fs_if {c : Expr} {a b : List Stmt} {t : Env → Option (R Bool)} (hc : FT X E c t) (ha : FSs X E a f) (hb : FSs X E b g) : FS X E (.If c a b pos) (fIfS t f g) := PS_le (ps_if hc ha hb) fun D σ H q => by
  obtain ⟨B, G0, G, ρ, F, o, hs, hb, hr, hp⟩ := q
  refine stT hs hb hp hr fun k H1 G1 h1 x1 => ?_
  cases k with
  | true => rw [if_pos rfl] at h1 ⊢; exact ⟨B, G0, G1, ρ, F, o, hs.xt x1, hb.xt x1, h1, hp.mono x1.g⟩
  | false => rw [if_neg Bool.false_ne_true] at h1 ⊢; exact ⟨B, G0, G1, ρ, F, o, hs.xt x1, hb.xt x1, h1, hp.mono x1.g⟩
/-- return e; return x (what is one's own goes along) -/
def fRet (f : Env → Option (R Sl)) : Env → Option Out := fun ρ => bndS (f ρ) fun s => some (.rt s)
def fRetV (i : Nat) : Env → Option Out := fun ρ => match ρ[i]? with
  | some .un => none
  | some s => some (.rt s)
  | none => none
theorem fs_ret (h : FE X E e fe) : FS X E (.Return (some e) pos) (fRet fe) := PS_le (ps_ret h) fun D σ H q => by
  obtain ⟨B, G0, G, ρ, F, o, hs, hb, hr, hp⟩ := q
  refine stE hs hb hp hr fun s v H1 G1 h1 x1 w => ?_
  cases h1
  exact hp v H1 G1 (hb.x.trans x1) x1.g (w.back hb.x.h)
theorem fs_retV {i : Nat} (h : PE X e (tVar i)) : FS X E (.Return (some e) pos) (fRetV i) := PS_le (ps_ret h) fun D σ H q => by
  obtain ⟨B, G0, G, ρ, F, o, hs, hb, hr, hp⟩ := q
  unfold fRetV at hr
  split at hr
  · cases hr
  · rename_i s hn e
    cases hr
    obtain ⟨o, h1, h2⟩ := hs.sl i _ e
    have hv : ∃ v, o = some v := h2.isV (hn ·)
    obtain ⟨v, rfl⟩ := hv
    exact ⟨v, h1, hp v H G hb.x (Same.refl _) ⟨F i, h2, fun p hp => ⟨hb.o i p hp, (hs.own i p hp).1⟩⟩⟩
  · cases hr
def fRetN : Env → Option Out := fun _ => some (.rt (.fz .non))
theorem fs_retN : FS X E (.Return none pos) fRetN := PS_le ps_retN fun D σ H q => by
  obtain ⟨B, G0, G, ρ, F, o, hs, hb, hr, hp⟩ := q
  cases hr
  exact hp .non H G hb.x (Same.refl _) (.fz .non)
/-- raise C('..') -/
def fRaise (C : Addr) : Env → Option Out := fun _ => some (.ex C none)
theorem fs_raise {C : Addr} (h : PS X st (fun _ σ H => E σ (.ref C) none H)) : FS X E st (fRaise C) := PS_le h fun D σ H q => by
  obtain ⟨B, G0, G, ρ, F, o, hs, hb, hr, hp⟩ := q
  cases hr
  exact hp σ ρ none H G F hs hb (Same.refl _) trivial
/-- a way that is not gone -/
theorem fs_never {st : Stmt} : FS X E st (fun _ => none) := PS_le ps_never fun D σ H q => by
  obtain ⟨B, G0, G, ρ, F, o, hs, hb, hr, hp⟩ := q
  cases hr
/-- what slot i owns is frozen, ahead of a statement -/
def frzE (i : Nat) (ρ : Env) : Option Env := match ρ[i]? with
  | some s => s.fr.map fun d => ρ.set i (.fz d)
  | none => none
def fFrz (i : Nat) (f : Env → Option Out) : Env → Option Out := fun ρ => (frzE i ρ).bind f
theorem frzE_ok {K : PySem.W.Frag} {B G0 G H : Hp} {σ : L2.St} {ρ ρ' : Env} {F : Nat → List Addr} {i : Nat} (hs : SE K G H σ ρ F) (hb : BS B G0 G H F) (h : frzE i ρ = some ρ') : ∃ G' F', SE K G' H σ ρ' F' ∧ BS B G0 G' H F' ∧ Same G G' := by
  unfold frzE at h
  split at h
  · rename_i s e
    cases q : s.fr with
    | none => rw [q] at h; cases h
    | some d =>
      rw [q] at h; cases h
      obtain ⟨o, h1, h2⟩ := hs.sl i s e
      have hi : i < ρ.length := (List.getElem?_eq_some_iff.mp e).1
      have hv : ∃ v, o = some v := h2.isV (fun z => by rw [z] at q; cases q)
      obtain ⟨v, rfl⟩ := hv
      have hn : ∀ p ∈ F i, G p = none := fun p hp => (hs.own i p hp).1
      have gg : Same G (frz G H (F i)) := frz_same hn
      have gh : Same (frz G H (F i)) H := frz_sub hs.gh
      have rf : Rp K (frz G H (F i)) v d := h2.frozen gg (fun p hp => frz_in hp) q
      refine ⟨frz G H (F i), clr F i, ⟨gh, by simp [hs.len], fun j s' hs' => ?_, fun j hj => ?_, fun j p hp => ?_, fun j k p hj hk => ?_⟩, ⟨⟨hb.x.g.trans gg, hb.x.h, gh, fun a ha => ?_⟩, fun j p hp => ?_⟩, gg⟩
      · rw [List.getElem?_set] at hs'
        by_cases q' : i = j
        · subst q'
          rw [if_pos rfl, if_pos hi] at hs'
          cases hs'
          exact ⟨some v, h1, by unfold clr; rw [if_pos rfl]; exact ⟨rfl, v, rfl, rf⟩⟩
        · rw [if_neg q'] at hs'
          obtain ⟨o', a1, a2⟩ := hs.sl j s' hs'
          exact ⟨o', a1, by unfold clr; rw [if_neg (fun z => q' z.symm)]; exact a2.mono gg fun _ _ => rfl⟩
      · unfold clr
        rw [List.length_set] at hj
        rw [if_neg (by omega)]
        exact hs.out j hj
      · unfold clr at hp
        by_cases q' : j = i
        · rw [if_pos q'] at hp; simp at hp
        · rw [if_neg q'] at hp
          refine ⟨?_, (hs.own j p hp).2⟩
          rw [frz_out fun z => q' (hs.dis j i p hp z)]
          exact (hs.own j p hp).1
      · unfold clr at hj hk
        by_cases qj : j = i
        · rw [if_pos qj] at hj; simp at hj
        · by_cases qk : k = i
          · rw [if_pos qk] at hk; simp at hk
          · rw [if_neg qj] at hj; rw [if_neg qk] at hk; exact hs.dis j k p hj hk
      · rw [frz_out fun z => ha.ne (hb.o i a z)]
        exact hb.x.old a ha
      · unfold clr at hp
        by_cases q' : j = i
        · rw [if_pos q'] at hp; simp at hp
        · rw [if_neg q'] at hp; exact hb.o j p hp
  · cases h
theorem fs_frz {i : Nat} (h : FS X E st f) : FS X E st (fFrz i f) := PS_le h fun D σ H q => by
  obtain ⟨B, G0, G, ρ, F, o, hs, hb, hr, hp⟩ := q
  unfold fFrz at hr
  cases q : frzE i ρ with
  | none => rw [q] at hr; cases hr
  | some ρ' =>
    rw [q, Option.bind_some] at hr
    obtain ⟨G', F', a, b, c⟩ := frzE_ok hs hb q
    exact ⟨B, G0, G', ρ', F', o, a, b, hr, hp.mono c⟩
end

/-! ### 21. loops -/
def wIter (c : Env → Option (R Bool)) (b : Env → Option Out) : Nat → Env → Option Out
  | 0, _ => none
  | n + 1, ρ => bndS (c ρ) fun k => if k = true then (match b ρ with
      | some (.nx ρ') => wIter c b n ρ'
      | some (.ct ρ') => wIter c b n ρ'
      | some (.bk ρ') => some (.nx ρ')
      | r => r) else some (.nx ρ)
theorem wIter_succ {c : Env → Option (R Bool)} {b : Env → Option Out} : ∀ {n : Nat} {ρ : Env} {o : Out}, wIter c b n ρ = some o → wIter c b (n + 1) ρ = some o
  | 0, ρ, o, h => by cases h
  | n + 1, ρ, o, h => by
    unfold wIter at h ⊢
    cases q : c ρ with
    | none => rw [q] at h; cases h
    | some r =>
      rw [q] at h
      cases r with
      | ex C fs => exact h
      | val k =>
        rw [bndS_val] at h ⊢
        cases k with
        | false => exact h
        | true =>
          rw [if_pos rfl] at h ⊢
          split at h
          · exact wIter_succ h
          · exact wIter_succ h
          · exact h
          · exact h
theorem wIter_add {c : Env → Option (R Bool)} {b : Env → Option Out} {n : Nat} {ρ : Env} {o : Out} (h : wIter c b n ρ = some o) : ∀ k, wIter c b (n + k) ρ = some o
  | 0 => h
  | k + 1 => wIter_succ (wIter_add h k)
open Classical in
noncomputable def fWhile (c : Env → Option (R Bool)) (b : Env → Option Out) : Env → Option Out := fun ρ => if h : ∃ o n, wIter c b n ρ = some o then some h.choose else none
theorem fWhile_eq {c : Env → Option (R Bool)} {b : Env → Option Out} {n : Nat} {ρ : Env} {o : Out} (h : wIter c b n ρ = some o) : fWhile c b ρ = some o := by
  have hx : ∃ o n, wIter c b n ρ = some o := ⟨o, n, h⟩
  unfold fWhile
  rw [dif_pos hx]
  obtain ⟨m, hm⟩ := hx.choose_spec
  have h1 := wIter_add h m
  have h2 := wIter_add hm n
  rw [Nat.add_comm] at h2
  rw [h1] at h2
  exact h2.symm
theorem fWhile_of {c : Env → Option (R Bool)} {b : Env → Option Out} {ρ : Env} {o : Out} (h : fWhile c b ρ = some o) : ∃ n, wIter c b n ρ = some o := by
  unfold fWhile at h
  split at h
  · rename_i hx
    cases h
    exact hx.choose_spec
  · cases h
def forGo (gd : D → Env → Option Env) (b : Env → Option Out) : List D → Env → Option Out
  | [], ρ => some (.nx ρ)
  | d :: ds, ρ => (gd d ρ).bind fun ρ1 => match b ρ1 with
    | some (.nx ρ2) => forGo gd b ds ρ2
    | some (.ct ρ2) => forGo gd b ds ρ2
    | some (.bk ρ2) => some (.nx ρ2)
    | r => r
def fFor (it : Env → Option (R (List D))) (gd : D → Env → Option Env) (b : Env → Option Out) : Env → Option Out := fun ρ => bndS (it ρ) fun ds => forGo gd b ds ρ
section
variable {X : Cx} {E : L2.St → XK} {pos : Pos}
theorem fs_while {c : Expr} {body : List Stmt} {t : Env → Option (R Bool)} {b : Env → Option Out} (hp : PassesOwn (model X.prog X.w) X.A X.env X.xe) (hc : FT X E c t) (hb : FSs X E body b) : FS X E (.While c body [] pos) (fWhile t b) := PS_le (ps_while hp hc hb) fun D σ H q => by
  obtain ⟨B, G0, G, ρ, F, o, hs, hb, hr, hp⟩ := q
  obtain ⟨n, hn⟩ := fWhile_of hr
  refine ⟨fun m σ H => ∃ G' ρ' F', SE X.K G' H σ ρ' F' ∧ BS B G0 G' H F' ∧ Same G G' ∧ wIter t b m ρ' = some o, ⟨n, G, ρ, F, hs, hb, Same.refl _, hn⟩, ?_⟩
  rintro m σ1 H1 ⟨G1, ρ1, F1, s1, b1, g1, hm⟩
  cases m with
  | zero => cases hm
  | succ m =>
    unfold wIter at hm
    have p1 := hp.mono g1
    refine stT s1 b1 p1 hm fun k H2 G2 h2 x2 => ?_
    cases k with
    | false =>
      rw [if_neg Bool.false_ne_true] at h2 ⊢
      cases h2
      exact p1 σ1 H2 G2 F1 (s1.xt x2) (b1.xt x2) x2.g
    | true =>
      rw [if_pos rfl] at h2 ⊢
      refine ⟨fun σ' H' => ∃ G' ρ' F', SE X.K G' H' σ' ρ' F' ∧ BS B G0 G' H' F' ∧ Same G G' ∧ wIter t b m ρ' = some o, fun σ' H' h' => ⟨m, Nat.lt_succ_self _, h'⟩, ?_⟩
      have s2 := s1.xt x2
      have b2 := b1.xt x2
      have g2 := g1.trans x2.g
      have p2 := hp.mono g2
      split at h2
      · rename_i ρ' e
        exact ⟨B, G0, G2, ρ1, F1, _, s2, b2, e, fun σ' H' G' F' a b' c => ⟨G', ρ', F', a, b', g2.trans c, h2⟩⟩
      · rename_i ρ' e
        exact ⟨B, G0, G2, ρ1, F1, _, s2, b2, e, fun σ' H' G' F' a b' c => ⟨G', ρ', F', a, b', g2.trans c, h2⟩⟩
      · rename_i ρ' e
        cases h2
        exact ⟨B, G0, G2, ρ1, F1, _, s2, b2, e, p2⟩
      · rename_i e1 e2 e3
        refine ⟨B, G0, G2, ρ1, F1, o, s2, b2, h2, ?_⟩
        cases o with
        | nx r => exact absurd h2 (e1 r)
        | ct r => exact absurd h2 (e2 r)
        | bk r => exact absurd h2 (e3 r)
        | rt s => exact p2
        | ex C fs => exact p2
theorem fs_for {tg iter : Expr} {body : List Stmt} {it : Env → Option (R (List D))} {gd : D → Env → Option Env} {g : TG} {b : Env → Option Out} {vs : List Nat} (hp : PassesOwn (model X.prog X.w) X.A X.env X.xe) (hc : X.calm = true) (hi : FI X E true tg iter it) (hg : PG X tg g)
    (hgd : ∀ v σ H G ρ F d ρ' (Q : L2.St → Hp → Prop), SE X.K G H σ ρ F → Rp X.K G v d → gd d ρ = some ρ' → (∀ σ' F', SE X.K G H σ' ρ' F' → Less F F' → wipe σ' vs = wipe σ vs → Q σ' H) → g v σ H Q)
    (hb : FSs X E body b) (hfs : ∀ x, foldedSetIterable iter X.env x = pure x := by intro _; rfl) : FS X E (.For tg iter body [] pos) (fFor it gd b) := PS_le (ps_for (wi := tFI X.K E true it) (tb := tFS X.K E b) hp hc hi hg hb hfs) fun D σ H q => by
  obtain ⟨B, G0, G, ρ, F, o, hs, hb, hr, hp⟩ := q
  unfold fFor at hr
  cases q : it ρ with
  | none => rw [q] at hr; cases hr
  | some x =>
    rw [q] at hr
    cases x with
    | ex C fs => cases hr; exact ⟨G, ρ, F, _, hs, q, hp.px hs hb C fs rfl⟩
    | val ds =>
      rw [bndS_val] at hr
      refine ⟨G, ρ, F, _, hs, q, fun J H1 G1 x1 wk => ?_⟩
      rw [if_pos rfl] at wk
      obtain ⟨Y, wk, wy⟩ := wk
      refine for_it wk (fun i σ H => ∃ G' ρ' F', SE X.K G' H σ ρ' F' ∧ BS B G0 G' H F' ∧ Same G1 G' ∧ forGo gd b (ds.drop i) ρ' = some o) ?_ ?_ ?_ ?_
      · exact ⟨G1, ρ, F, hs.xt x1, hb.xt x1, Same.refl _, by rw [List.drop_zero]; exact hr⟩
      · rintro i σ2 H2 hi ⟨G', ρ', F', s', _, g', _⟩
        exact g'.trans s'.gh
      · rintro i x σ2 H2 H3 hi ⟨G2, ρ2, F2, s2, b2, g2, hgo⟩ y
        have hd : ∃ d, ds[i]? = some d := ⟨ds[i], by simp [hi]⟩
        obtain ⟨d, hd⟩ := hd
        obtain ⟨G3, xx2, rx⟩ := wy i H2 x H3 d G2 hd g2 s2.gh (g2.trans s2.gh) y
        have hdrop : ds.drop i = d :: ds.drop (i + 1) := by
          have h1 : i < ds.length := hi
          rw [List.drop_eq_getElem_cons h1]
          rw [List.getElem?_eq_getElem h1] at hd
          cases hd; rfl
        rw [hdrop] at hgo
        unfold forGo at hgo
        cases q3 : gd d ρ2 with
        | none => rw [q3] at hgo; cases hgo
        | some ρ3 =>
          rw [q3, Option.bind_some] at hgo
          refine hgd x σ2 H3 G3 ρ2 F2 d ρ3 _ (s2.xt xx2) rx q3 fun σ3 F3 s3 l3 _ => ?_
          have b3 := (b2.xt xx2).less l3
          have g3 := g2.trans xx2.g
          have p3 := hp.mono (x1.g.trans g3)
          split at hgo
          · rename_i ρ' e
            exact ⟨B, G0, G3, ρ3, F3, _, s3, b3, e, fun σ' H' G' F' a b' c => ⟨G', ρ', F', a, b', g3.trans c, hgo⟩⟩
          · rename_i ρ' e
            exact ⟨B, G0, G3, ρ3, F3, _, s3, b3, e, fun σ' H' G' F' a b' c => ⟨G', ρ', F', a, b', g3.trans c, hgo⟩⟩
          · rename_i ρ' e
            cases hgo
            exact ⟨B, G0, G3, ρ3, F3, _, s3, b3, e, p3⟩
          · rename_i e1 e2 e3
            refine ⟨B, G0, G3, ρ3, F3, o, s3, b3, hgo, ?_⟩
            cases o with
            | nx r => exact absurd hgo (e1 r)
            | ct r => exact absurd hgo (e2 r)
            | bk r => exact absurd hgo (e3 r)
            | rt s => exact p3
            | ex C fs => exact p3
      · rintro σ2 H2 ⟨G2, ρ2, F2, s2, b2, g2, hgo⟩
        rw [List.drop_length] at hgo
        cases hgo
        exact hp σ2 H2 G2 F2 s2 b2 (x1.g.trans g2)
end
end FN

set_option Elab.async false
set_option linter.all false
set_option maxRecDepth 100000
set_option maxHeartbeats 1000000
/-! FN, part G: what changes one's own things; defs as plain functions. -/
namespace FN
open PySem PySem.Spec PyProof.Rows L2

/-! ### 22. one's own lists and dicts change -/
section
variable {K : PySem.W.Frag} {B G0 G H H' : Hp} {σ : L2.St} {ρ : Env} {F : Nat → List Addr}
theorem SE.mut {i : Nat} {s s' : Sl} {o : Option V} {fp : List Addr} (e : SE K G H σ ρ F) (hi : ρ[i]? = some s) (ho : σ[i]? = some o) (hh : ∀ a, a ∉ F i → H' a = H a ∨ (H a = none ∧ a ∈ fp)) (r : RpS K G H' o s' fp) (hf : ∀ p ∈ fp, G p = none ∧ (p ∈ F i ∨ ∀ j, p ∉ F j)) :
    SE K G H' σ (ρ.set i s') (FN.put F i fp) where
  gh := fun b u hb => by
    have hF : b ∉ F i := fun z => by rw [(e.own i b z).1] at hb; cases hb
    rcases hh b hF with q | ⟨q, _⟩
    · rw [q]; exact e.gh b u hb
    · rw [e.gh b u hb] at q; cases q
  len := by simp [e.len]
  sl := fun j t ht => by
    have hil : i < ρ.length := (List.getElem?_eq_some_iff.mp hi).1
    rw [List.getElem?_set] at ht
    by_cases q : i = j
    · subst q
      rw [if_pos rfl, if_pos hil] at ht
      cases ht
      exact ⟨o, ho, by unfold FN.put; rw [if_pos rfl]; exact r⟩
    · rw [if_neg q] at ht
      obtain ⟨u, h1, h2⟩ := e.sl j t ht
      refine ⟨u, h1, ?_⟩
      unfold FN.put; rw [if_neg (fun z => q z.symm)]
      refine h2.mono (Same.refl _) fun p hp => ?_
      rcases hh p (fun z => q (e.dis i j p z hp)) with z | ⟨z, _⟩
      · exact z
      · exact absurd z (e.own j p hp).2.ne
  out := fun j hj => by
    have hil : i < ρ.length := (List.getElem?_eq_some_iff.mp hi).1
    rw [List.length_set] at hj
    unfold FN.put
    rw [if_neg (by omega)]
    exact e.out j hj
  own := fun j p hp => by
    unfold FN.put at hp
    by_cases q : j = i
    · rw [if_pos q] at hp; exact ⟨(hf p hp).1, r.mem_ne p hp⟩
    · rw [if_neg q] at hp
      refine ⟨(e.own j p hp).1, ?_⟩
      rcases hh p (fun z => q (e.dis j i p hp z)) with z | ⟨z, _⟩
      · exact (e.own j p hp).2.eq z
      · exact absurd z (e.own j p hp).2.ne
  dis := fun j k p hj hk => by
    unfold FN.put at hj hk
    have aux : ∀ m, m ≠ i → p ∈ F m → p ∈ fp → False := fun m hm h1 h2 => by
      rcases (hf p h2).2 with z | z
      · exact hm (e.dis m i p h1 z)
      · exact z m h1
    by_cases qj : j = i
    · by_cases qk : k = i
      · rw [qj, qk]
      · rw [if_pos qj] at hj; rw [if_neg qk] at hk; exact (aux k qk hk hj).elim
    · by_cases qk : k = i
      · rw [if_neg qj] at hj; rw [if_pos qk] at hk; exact (aux j qj hj hk).elim
      · rw [if_neg qj] at hj; rw [if_neg qk] at hk; exact e.dis j k p hj hk
theorem BS.mut {i : Nat} {fp : List Addr} (b : BS B G0 G H F) (gh : Same G H') (hh : ∀ a, a ∉ F i → H' a = H a ∨ (H a = none ∧ a ∈ fp)) (hf : ∀ p ∈ fp, B p = none) : BS B G0 G H' (FN.put F i fp) := by
  refine ⟨⟨b.x.g, fun a o ha => ?_, gh, b.x.old⟩, fun j p hp => ?_⟩
  · have hF : a ∉ F i := fun z => by rw [b.o i a z] at ha; cases ha
    rcases hh a hF with q | ⟨q, _⟩
    · rw [q]; exact b.x.h a o ha
    · rw [b.x.h a o ha] at q; cases q
  · unfold FN.put at hp
    by_cases q : j = i
    · rw [if_pos q] at hp
      exact hf p hp
    · rw [if_neg q] at hp; exact b.o j p hp
end
def fApp (i : Nat) (f : Env → Option (R Sl)) : Env → Option Out := fun ρ => match ρ[i]? with
  | some (.oL ds) => bndS (frD (f ρ)) fun d => if ds.length ≤ 100000 then some (.nx (ρ.set i (.oL (ds ++ [d])))) else none
  | some (.oLL xss) => bndS (f ρ) fun s => match s with
    | .oL ds => if xss.length ≤ 100000 then some (.nx (ρ.set i (.oLL (xss ++ [ds])))) else none
    | _ => none
  | _ => none
def putG {κ β : Type} [DecidableEq κ] (kvs : List (κ × β)) (k : κ) (v : β) : List (κ × β) :=
  if (kvs.any fun kv => decide (kv.1 = k)) = true then kvs.map fun kv => if kv.1 = k then (kv.1, v) else kv else kvs ++ [(k, v)]
theorem putK_eq {κ : Type} [DecidableEq κ] (kvs : List (κ × V)) (k : κ) (v : V) : putK kvs k v = putG kvs k v := by unfold putK putG; rfl
theorem RKV.any {κ : Type} [DecidableEq κ] {K : PySem.W.Frag} {G : Hp} (k : κ) : ∀ {ds : List (κ × D)} {vs : List (κ × V)}, RKV K G vs ds → (vs.any fun kv => decide (kv.1 = k)) = ds.any fun kv => decide (kv.1 = k)
  | [], vs, r => by rw [All2.nil_r r]; rfl
  | e :: ds, vs, r => by
    obtain ⟨x, rest, rfl, a, b⟩ := All2.cons_r r
    rw [List.any_cons, List.any_cons, RKV.any k b, a.1]
theorem RKV.map_put {κ : Type} [DecidableEq κ] {K : PySem.W.Frag} {G : Hp} (k : κ) {v : V} {d : D} (h : Rp K G v d) : ∀ {ds : List (κ × D)} {vs : List (κ × V)}, RKV K G vs ds → RKV K G (vs.map fun kv => if kv.1 = k then (kv.1, v) else kv) (ds.map fun kv => if kv.1 = k then (kv.1, d) else kv)
  | [], vs, r => by rw [All2.nil_r r]; exact All2.nil
  | e :: ds, vs, r => by
    obtain ⟨x, rest, rfl, a, b⟩ := All2.cons_r r
    rw [List.map_cons, List.map_cons]
    refine All2.cons ?_ (RKV.map_put k h b)
    rw [a.1]
    by_cases q : e.1 = k
    · rw [if_pos q, if_pos q]; exact ⟨rfl, h⟩
    · rw [if_neg q, if_neg q]; exact a
theorem RKV.put {κ : Type} [DecidableEq κ] {K : PySem.W.Frag} {G : Hp} {k : κ} {v : V} {d : D} {ds : List (κ × D)} {vs : List (κ × V)} (r : RKV K G vs ds) (h : Rp K G v d) : RKV K G (putK vs k v) (putG ds k d) := by
  rw [putK_eq]
  unfold putG
  rw [r.any k]
  split
  · exact r.map_put k h
  · exact r.append (All2.cons ⟨rfl, h⟩ All2.nil)
/-- xs[k] = d, d[k] = d -/
def setS (s : Sl) (k : Sl) (d : D) : Option Sl := match s, k with
  | .oL ds, .fz (.int n) => (ixN ds.length n).map fun j => .oL (ds.set j d)
  | .oK kvs, .fz e => match keyD e with
    | some k => if kvs.length ≤ 100000 then some (.oK (putG kvs k d)) else none
    | none => none
  | .oT kvs, .fz (.tup es) => match keysD es with
    | some k => if kvs.length ≤ 100000 then some (.oT (putG kvs k d)) else none
    | none => none
  | _, _ => none
def fSet (i : Nat) (fk fv : Env → Option (R Sl)) : Env → Option Out := fun ρ => bndS (frD (fv ρ)) fun d => bndS (fk ρ) fun k => match ρ[i]? with
  | some s => (setS s k d).map fun s' => .nx (ρ.set i s')
  | none => none
def rSet : TSet := fun o i v H Q => rSetL o i v H Q ∨ rSetD o i v H Q
theorem set_any {X : Cx} (hu : X.A.units + 1 < cLine) : PSet X rSet := by
  intro pins s σ H o i v ov iv u Q I r1 r2 r3 h
  rcases h with h | h
  · exact set_list pins s σ H o i v ov iv u Q I r1 r2 r3 h
  · exact set_dict hu pins s σ H o i v ov iv u Q I r1 r2 r3 h
theorem sz_lt {n : Nat} (h : n ≤ 100000) : n < sizeLine := Nat.lt_of_le_of_lt h (by decide)
section
variable {X : Cx} {E : L2.St → XK} {st : Stmt} {f fk fv : Env → Option (R Sl)} {i : Nat}
theorem tyV_list {K : PySem.W.Frag} {H : Hp} {p : Addr} {vs : List V} (h : H p = some (.lst vs)) : tyV K "list" (.ref p) H := .inl ⟨rfl, vs, .of h⟩
theorem app_core {K : PySem.W.Frag} {D σ H} (q : tFS K E (fApp i f) D σ H) : tDrop (tBM K "list" rAppend (tVar i) (tCons (tFE K E f) tNil)) D σ H := by
  obtain ⟨B, G0, G, ρ, F, o, hs, hb, hr, hp⟩ := q
  unfold fApp at hr
  split at hr
  · rename_i ds e
    obtain ⟨w, h1, p, vs, hF, rfl, h2, h3⟩ := hs.sl i _ e
    refine ⟨.ref p, h1, tyV_list h2, ?_⟩
    refine stD hs hb hp hr fun d v H1 G1 h4 x1 r => ?_
    split at h4
    · rename_i hz
      cases h4
      have hs1 := hs.xt x1
      have hb1 := hb.xt x1
      have e2 : H1 p = some (.lst vs) := x1.h _ _ h2
      have hpF : ∀ a, a ∉ F i → a ≠ p := fun a ha z => ha (by rw [hF, z]; simp)
      refine ⟨p, vs, v, rfl, rfl, e2, by rw [h3.1]; exact sz_lt hz, ?_⟩
      have hn : G1 p = none := (hs1.own i p (by rw [hF]; simp)).1
      have hm := hs1.mut (s' := .oL (ds ++ [d])) (H' := upd H1 p (.lst (vs ++ [v]))) (fp := [p]) e h1 (fun a ha => .inl (upd_ne (hpF a ha))) ⟨p, _, rfl, rfl, upd_same, (Rps.mono h3 x1.g).append (All2.cons r All2.nil)⟩
        (fun q hq => by simp at hq; subst hq; exact ⟨hn, .inl (by rw [hF]; simp)⟩)
      exact hp _ _ G1 _ hm (hb1.mut hm.gh (fun a ha => .inl (upd_ne (hpF a ha))) fun q hq => by simp at hq; subst hq; exact hb.o i q (by rw [hF]; simp)) x1.g
    · cases h4
  · rename_i xss e
    obtain ⟨w, h1, p, cs, hF, rfl, h2, nd, h3⟩ := hs.sl i _ e
    refine ⟨.ref p, h1, tyV_list h2, ?_⟩
    refine stE hs hb hp hr fun s v H1 G1 h4 x1 ow => ?_
    split at h4
    · rename_i ds
      split at h4
      · rename_i hz
        cases h4
        obtain ⟨fp, ⟨c, vs, rfl, hv, hc, rc⟩, hfr⟩ := ow
        cases hv
        have hs1 := hs.xt x1
        have hb1 := hb.xt x1
        have e2 : H1 p = some (.lst (cs.map V.ref)) := x1.h _ _ h2
        have hcn := hfr c (by simp)
        have hcF : ∀ j, c ∉ F j := fun j z => (hs.own j c z).2.ne hcn.1
        have hpF : ∀ a, a ∉ F i → a ≠ p := fun a ha z => ha (by rw [hF, z]; simp)
        have hcp : c ≠ p := hpF c (hcF i)
        refine ⟨p, cs.map V.ref, .ref c, rfl, rfl, e2, ?_, ?_⟩
        · rw [List.length_map, h3.1]; exact sz_lt hz
        have hal : ∀ a, a ∉ F i → upd H1 p (.lst (cs.map V.ref ++ [.ref c])) a = H1 a ∨ (H1 a = none ∧ a ∈ F i ++ [c]) := fun a ha => .inl (upd_ne (hpF a ha))
        have hcold : ∀ x, x ∈ cs → x ≠ p := fun x hx z => by
          rw [List.nodup_cons] at nd; rw [z] at hx; exact nd.1 hx
        have rr : RpS K G1 (upd H1 p (.lst (cs.map V.ref ++ [.ref c]))) (some (.ref p)) (.oLL (xss ++ [ds])) (F i ++ [c]) := by
          refine ⟨p, cs ++ [c], by rw [hF]; rfl, rfl, by rw [upd_same]; simp, ?_, ?_⟩
          · rw [List.nodup_cons] at nd ⊢
            refine ⟨?_, ?_⟩
            · rw [List.mem_append]
              rintro (z | z)
              · exact nd.1 z
              · simp at z; exact hcp z.symm
            · rw [List.nodup_append]
              refine ⟨nd.2, by simp, ?_⟩
              intro a ha b hb z
              simp at hb
              subst hb; subst z
              exact hcF i (by rw [hF]; exact List.mem_cons_of_mem _ ha)
          · refine All2.append (All2.mono ⟨h3.1, fun j x y hx hy => ?_⟩ fun x y h => h) (All2.cons ?_ All2.nil)
            · obtain ⟨us, q1, q2⟩ := h3.2 j x y hx hy
              refine ⟨us, ?_, Rps.mono q2 x1.g⟩
              rw [upd_ne (hcold x (List.mem_of_getElem? hx))]
              exact x1.h _ _ q1
            · exact ⟨vs, by rw [upd_ne hcp]; exact hc, rc⟩
        -- the list that was laid is at c, the outer one changed at p
        have hm := hs1.mut (s' := .oLL (xss ++ [ds])) (fp := F i ++ [c]) e h1 hal rr (fun q hq => by
          rcases List.mem_append.mp hq with z | z
          · exact ⟨(hs1.own i q z).1, .inl z⟩
          · simp at z; subst z; exact ⟨hcn.2, .inr hcF⟩)
        · exact hp _ _ G1 _ hm (hb1.mut hm.gh hal fun q hq => by
            rcases List.mem_append.mp hq with z | z
            · exact hb.o i q z
            · simp at z; subst z; exact hb.x.h.free hcn.1) x1.g
      · cases h4
    · cases h4
  · cases hr
def isOwn : Sl → Bool
  | .oL _ => true
  | .oK _ => true
  | .oT _ => true
  | _ => false
theorem set_core {K : PySem.W.Frag} {D σ H} (q : tFS K E (fun ρ => match ρ[i]? with | some s => if isOwn s = true then fSet i fk fv ρ else none | none => none) D σ H) : tAsg (tFE K E fv) (gSub (tVar i) (tFB K E fk) rSet) D σ H := by
  obtain ⟨B, G0, G, ρ, F, o, hs, hb, hr, hp⟩ := q
  dsimp only at hr
  split at hr
  · rename_i s e
    split at hr
    · rename_i ho
      unfold fSet at hr
      obtain ⟨w, h1, h2⟩ := hs.sl i _ e
      obtain ⟨wv, rfl⟩ := h2.isV (fun z => by rw [z] at ho; cases ho)
      refine stD hs hb hp hr fun d v H1 G1 h4 x1 r => ?_
      refine ⟨wv, h1, ?_⟩
      refine stB (hs.xt x1) (hb.xt x1) (hp.mono x1.g) h4 fun k kv H2 G2 h5 x2 bk => ?_
      rw [e] at h5
      dsimp only at h5
      cases q : setS s k d with
      | none => rw [q] at h5; cases h5
      | some s' =>
        rw [q] at h5; cases h5
        have x := x1.trans x2
        have hs2 := hs.xt x
        have hb2 := hb.xt x
        have rd := r.mono x2.g
        have fin : ∀ (p : Addr) (u : HO), F i = [p] → RpS K G2 (upd H2 p u) (some wv) s' [p] → D.nx σ (upd H2 p u) := fun p u hF rr => by
          have hpF : ∀ a, a ∉ F i → a ≠ p := fun a ha z => ha (by rw [hF, z]; simp)
          have hm := hs2.mut (s' := s') (H' := upd H2 p u) (fp := [p]) e h1 (fun a ha => .inl (upd_ne (hpF a ha))) rr (fun q hq => by simp at hq; subst hq; exact ⟨(hs2.own i q (by rw [hF]; simp)).1, .inl (by rw [hF]; simp)⟩)
          exact hp _ _ G2 _ hm (hb2.mut hm.gh (fun a ha => .inl (upd_ne (hpF a ha))) fun q hq => by simp at hq; subst hq; exact hb.o i q (by rw [hF]; simp)) x.g
        unfold setS at q
        split at q
        · rename_i ds n
          cases q2 : ixN ds.length n with
          | none => rw [q2] at q; cases q
          | some j =>
            rw [q2] at q; cases q
            obtain ⟨p, vs, hF, e1, e2, e3⟩ := h2
            cases e1
            refine .inl ⟨p, vs, n, j, rfl, bk.inv_fz.inv_int, x.h _ _ e2, by rw [e3.1]; exact q2, ?_⟩
            exact fin p _ hF ⟨p, _, rfl, rfl, upd_same, (Rps.mono e3 x.g).set j rd⟩
        · rename_i kvs e'
          split at q
          · rename_i key q2
            split at q
            · rename_i hz
              cases q
              obtain ⟨p, vs, hF, e1, e2, e3⟩ := h2
              cases e1
              have hk := keyD_ok bk.inv_fz q2
              rw [hk]
              refine .inr ⟨p, _, rfl, DPut.k (x.h _ _ e2) (by rw [e3.1]; exact sz_lt hz), ?_⟩
              exact fin p _ hF ⟨p, _, rfl, rfl, upd_same, RKV.put (RKV.mono e3 x.g) rd⟩
            · cases q
          · cases q
        · rename_i kvs es
          split at q
          · rename_i key q2
            split at q
            · rename_i hz
              cases q
              obtain ⟨p, vs, hF, e1, e2, e3⟩ := h2
              cases e1
              obtain ⟨b, ws, rfl, e4, e5⟩ := bk.inv_fz.inv_tup
              have hk := keysD_ok e5 q2
              subst hk
              refine .inr ⟨p, _, rfl, DPut.t (x.h _ _ e2) (x2.gh _ _ e4) (by rw [e3.1]; exact sz_lt hz), ?_⟩
              exact fin p _ hF ⟨p, _, rfl, rfl, upd_same, RKV.put (RKV.mono e3 x.g) rd⟩
            · cases q
          · cases q
        · cases q
    · cases hr
  · cases hr
/-- x.append(e); x[k] = e -/
theorem fs_app (h : PS X st (tDrop (tBM X.K "list" rAppend (tVar i) (tCons (tFE X.K E f) tNil)))) : FS X E st (fApp i f) := PS_le h fun D σ H q => app_core q
def fSetI (i : Nat) (fk fv : Env → Option (R Sl)) : Env → Option Out := fun ρ => match ρ[i]? with
  | some s => if isOwn s = true then fSet i fk fv ρ else none
  | none => none
theorem fs_set (h : PS X st (tAsg (tFE X.K E fv) (gSub (tVar i) (tFB X.K E fk) rSet))) : FS X E st (fSetI i fk fv) := PS_le h fun D σ H q => set_core q
/-- self.f = e, in a slot of one's own -/
def putFD (f : Str) (d : FN.D) : List (Str × FN.D) → List (Str × FN.D)
  | [] => [(f, d)]
  | (g, w) :: r => if f = g then (g, d) :: r else (g, w) :: putFD f d r
def fFldS (i : Nat) (ok : Addr → Bool) (fn : Str) (fv : Env → Option (R Sl)) : Env → Option Out := fun ρ => match ρ[i]? with
  | some (.oI p C fs) => if ok C = true ∧ fs.length < 100 then bndS (frD (fv ρ)) fun d => some (.nx (ρ.set i (.oI p C (putFD fn d fs)))) else none
  | _ => none
end
end FN

set_option Elab.async false
set_option linter.all false
set_option maxRecDepth 100000
set_option maxHeartbeats 1000000
/-! FN, part H: fields stored, defs as functions, instances made. -/
namespace FN
open PySem PySem.Spec PyProof.Rows L2

theorem rkv_putF {K : PySem.W.Frag} {G : Hp} {f : Str} {v : V} {d : D} (h : Rp K G v d) : ∀ {ds : List (Str × D)} {vs : List (Str × V)}, RKV K G vs ds → RKV K G (putF f v vs) (putFD f d ds)
  | [], vs, r => by rw [All2.nil_r r]; exact All2.cons ⟨rfl, h⟩ All2.nil
  | e :: ds, vs, r => by
    obtain ⟨x, rest, rfl, a, b⟩ := All2.cons_r r
    obtain ⟨k, v'⟩ := x
    obtain ⟨k', d'⟩ := e
    obtain ⟨a1, a2⟩ := a
    dsimp only at a1 a2
    subst a1
    unfold putF putFD
    by_cases q : k = f
    · rw [if_pos q, if_pos q.symm]; exact All2.cons ⟨rfl, h⟩ b
    · rw [if_neg q, if_neg (fun z => q z.symm)]; exact All2.cons ⟨rfl, a2⟩ (rkv_putF h b)
section
variable {X : Cx} {E : L2.St → XK} {st : Stmt} {f fk fv : Env → Option (R Sl)} {i : Nat}
theorem fldS_core {K : PySem.W.Frag} {ok : Addr → Bool} {fn : Str} (hok : ∀ C, ok C = true → Cls K C ∧ NoAttr K C fn) {D σ H} (q : tFS K E (fFldS i ok fn fv) D σ H) : sFld K (tVar i) (tFE K E fv) fn D σ H := by
  obtain ⟨B, G0, G, ρ, F, o, hs, hb, hr, hp⟩ := q
  unfold fFldS at hr
  split at hr
  · rename_i p C fs e
    split at hr
    · rename_i hC
      obtain ⟨w, h1, dx, vs, hF, rfl, h2, h3⟩ := hs.sl i _ e
      refine stD hs hb hp hr fun d v H1 G1 h4 x1 r => ?_
      cases h4
      have hs1 := hs.xt x1
      have hb1 := hb.xt x1
      have hpF : ∀ a, a ∉ F i → a ≠ p := fun a ha z => ha (by rw [hF, z]; simp)
      refine ⟨.ref p, h1, p, C, dx, vs, rfl, x1.h _ _ h2, (hok C hC.1).1, (hok C hC.1).2, by rw [h3.1]; exact Nat.lt_of_lt_of_le hC.2 (by decide), ?_⟩
      have rr : RpS K G1 (upd H1 p (.ins C dx (putF fn v vs))) (some (.ref p)) (.oI p C (putFD fn d fs)) [p] := ⟨dx, _, rfl, rfl, upd_same, rkv_putF r (RKV.mono h3 x1.g)⟩
      have hm := hs1.mut (fp := [p]) e h1 (fun a ha => .inl (upd_ne (hpF a ha))) rr (fun q hq => by simp at hq; subst hq; exact ⟨(hs1.own i q (by rw [hF]; simp)).1, .inl (by rw [hF]; simp)⟩)
      exact hp _ _ G1 _ hm (hb1.mut hm.gh (fun a ha => .inl (upd_ne (hpF a ha))) fun q hq => by simp at hq; subst hq; exact hb.o i q (by rw [hF]; simp)) x1.g
    · cases hr
  · cases hr
theorem fs_fldS {ok : Addr → Bool} {fn : Str} (hok : ∀ C, ok C = true → Cls X.K C ∧ NoAttr X.K C fn) (h : PS X st (sFld X.K (tVar i) (tFE X.K E fv) fn)) : FS X E st (fFldS i ok fn fv) := PS_le h fun D σ H q => fldS_core hok q
end

/-! ### 23. defs -/
def fDef (n : Nat) (f : Env → Option Out) : List D → Option (R Sl) := fun ds => match f (ds.map .fz ++ List.replicate (n - ds.length) .un) with
  | some (.rt s) => some (.val s)
  | some (.nx _) => some (.val (.fz .non))
  | some (.ex C fs) => some (.ex C fs)
  | _ => none
def gDef (m n : Nat) (f : Env → Option Out) : List D → Option (R Sl) := fun ds => if ds.length = m then fDef n f ds else none
theorem se_start {K : PySem.W.Frag} {G H : Hp} {N : List Str} {vs : List V} {ds : List D} (gh : Same G H) (r : Rps K G vs ds) : SE K G H (L2.start N vs) (ds.map .fz ++ List.replicate (N.length - ds.length) .un) (fun _ => []) where
  gh := gh
  len := by simp [L2.start, r.1]
  sl := fun i s hs => by
    have hl := r.1
    by_cases hi : i < ds.length
    · rw [List.getElem?_append_left (by simpa using hi), List.getElem?_map] at hs
      cases q : ds[i]? with
      | none => rw [q] at hs; cases hs
      | some d =>
        rw [q] at hs; cases hs
        obtain ⟨v, h1, h2⟩ := r.get q
        refine ⟨some v, ?_, rfl, v, rfl, h2⟩
        unfold L2.start
        rw [List.getElem?_append_left (by simpa [hl] using hi), List.getElem?_map, h1]; rfl
    · rw [List.getElem?_append_right (by simp; omega), List.getElem?_replicate] at hs
      split at hs
      · rename_i h
        cases hs
        refine ⟨none, ?_, rfl⟩
        unfold L2.start
        rw [List.getElem?_append_right (by simp; omega), List.getElem?_replicate, if_pos (by simp at h ⊢; omega)]
      · cases hs
  out := fun _ _ => rfl
  own := fun i p hp => by simp at hp
  dis := fun i j p hp => by simp at hp
theorem def_core {K : PySem.W.Frag} {E : XK} {N : List Str} {m : Nat} {f : Env → Option Out} {vs : List V} {H : Hp} {Q : VK} (h : spF K (gDef m N.length f) vs H Q E) : tFS K (fun _ => E) f { nx := fun _ H' => Q .non H', rt := Q } (L2.start N vs) H := by
  obtain ⟨G, ds, r, gh, rps, hg, hp⟩ := h
  unfold gDef at hg
  split at hg
  · unfold fDef at hg
    have se := se_start (N := N) gh rps
    have bs : BS H G G H (fun _ => []) := ⟨.refl gh, fun i p hp => by simp at hp⟩
    split at hg
    · rename_i s e
      cases hg
      exact ⟨H, G, G, _, _, _, se, bs, e, fun v H' G' x _ o => hp v H' G' x o⟩
    · rename_i ρ' e
      cases hg
      exact ⟨H, G, G, _, _, _, se, bs, e, fun σ' H' G' F' _ b _ => hp .non H' G' b.x (.fz .non)⟩
    · rename_i C fs e
      cases hg
      exact ⟨H, G, G, _, _, _, se, bs, e, fun σ' ρ' d H' G' F' _ b _ r => hp d H' G' b.x r⟩
    · cases hg
  · cases hg
theorem spF_len {K : PySem.W.Frag} {m n : Nat} {f : Env → Option Out} : ∀ vs H Q E, spF K (gDef m n f) vs H Q E → vs.length = m := fun vs H Q E h => by
  obtain ⟨G, ds, r, gh, rps, hg, hp⟩ := h
  unfold gDef at hg
  split at hg
  · rename_i q; rw [rps.1, q]
  · cases hg
theorem spF_imp {K : PySem.W.Frag} {g g' : List D → Option (R Sl)} (h : ∀ ds r, g' ds = some r → g ds = some r) : ∀ vs H Q E, spF K g' vs H Q E → spF K g vs H Q E := fun vs H Q E q => by
  obtain ⟨G, ds, r, gh, rps, hg, hp⟩ := q
  exact ⟨G, ds, r, gh, rps, h ds r hg, hp⟩
section
variable {P : Program} {w : World} {K : PySem.W.Frag} {mg : Str → Option Value} {base : Heap}
theorem def_ok {x qual : Str} {st : Stmt} {f : Addr} {fd : FuncData} {N ps : List Str} {k : Nat} {body : Env → Option Out} (F : Fun K x qual st f fd) (S : FnScope N ps (defScope st))
    (hbody : ∀ (cdv : Value) (A : Around) (outer : List PySem.Env) (s : Shared) (H : Hp) (E : XK), Room k (A.deeper (envOfC qual (defScope st) s.heap.objs.size f cdv)) →
      FSs (cxOf (L2.CX P w) P w K mg base N qual (defScope st) f cdv A outer s H E) (fun _ => E) (defBody st) body) : FnOk P w K mg base (L2.CX P w) (k + 1) f fd ps (spF K (gDef ps.length N.length body)) :=
  F.okX S (fun vs H Q E h => spF_len vs H Q E h) fun cdv A outer s H vs Q E hr h => ⟨_, hbody cdv A outer s H E hr, def_core h⟩
end

/-! ### 24. instances made -/
/-- what __init__ promises: the fields, by the arguments behind self -/
def spI (K : PySem.W.Frag) (C : Addr) (g : List D → Option (R (List (Str × D)))) : Sp := fun vs H Q E => ∃ x dx vs' G ds r, vs = .ref x :: vs' ∧ H x = some (.ins C dx []) ∧ G x = none ∧ Same G H ∧ Rps K G vs' ds ∧ g ds = some r ∧
  match r with
  | .val fs => ∀ fvs dx' H' G', Same G G' → Same G' H' → (∀ a o, a ≠ x → H a = some o → H' a = some o) → (∀ a, Nt H a → G' a = G a) → H' x = some (.ins C dx' fvs) → RKV K G' fvs fs → Q .non H'
  | .ex C' fs => ∀ d H' G', Same G G' → Same G' H' → (∀ a o, a ≠ x → H a = some o → H' a = some o) → (∀ a, a ≠ x → Nt H a → G' a = G a) → ExR K G' H' d fs → E (.ref C') d H'
def fMake (C : Addr) (g : List D → Option (R (List (Str × D)))) (fas : Env → Option (R (List D))) : Env → Option (R Sl) := fun ρ => bnd (fas ρ) fun ds => bnd (g ds) fun fs => some (.val (.fz (.obj C fs)))
theorem make_core {K : PySem.W.Frag} {E1 : XK} {C : Addr} {g : List D → Option (R (List (Str × D)))} {fas : Env → Option (R (List D))} {σ H Q} (h : tFE K (fun _ => E1) (fMake C g fas) σ H Q) : tMake C (spI K C g) [] E1 (tFA K (fun _ => E1) fas) σ H Q := by
  obtain ⟨G, ρ, F, r, hs, hr, hp⟩ := h
  refine useA (E := fun _ => E1) hs hr hp.px fun ds vs H1 G1 h1 x1 rps => ?_
  intro x dx nx ndx hne
  rw [List.append_nil]
  have gx : G1 x = none := x1.gh.free nx
  have s2 : Same G1 (upd (upd H1 dx (.own x)) x (.ins C dx [])) := fun b o e => by
    have e1 := x1.gh b o e
    rw [upd_ne (ne_of_none e1 nx), upd_ne (ne_of_none e1 ndx)]; exact e1
  have old : ∀ a, H1 a ≠ none → (upd (upd H1 dx (.own x)) x (.ins C dx [])) a = H1 a := fun a ha => by
    have h1 : a ≠ x := fun z => ha (by rw [z]; exact nx)
    have h2 : a ≠ dx := fun z => ha (by rw [z]; exact ndx)
    rw [upd_ne h1, upd_ne h2]
  have hp1 := hp.xt x1
  cases q : g ds with
  | none => rw [q] at h1; cases h1
  | some r' =>
    rw [q] at h1
    cases r' with
    | val fs =>
      cases h1
      refine ⟨x, dx, vs, G1, ds, _, rfl, upd_same, gx, s2, rps, q, fun fvs dx' H' G' g1 g2 g3 g4 g5 g6 => ⟨rfl, ?_⟩⟩
      have gx' : G' x = none := (g4 x (nt_of upd_same)).trans gx
      have hH : Same H1 H' := fun b o e => g3 b o (ne_of_none e nx) (by rw [old b (ne_none_of e)]; exact e)
      have gg : Same G' (upd G' x (.ins C dx' fvs)) := fun b o e => by rw [upd_ne (ne_of_none e gx')]; exact e
      refine hp1 (.ref x) H' (upd G' x (.ins C dx' fvs)) ⟨g1.trans gg, hH, fun b o e => ?_, fun a ha => ?_⟩ (.fz (rp_obj upd_same (RKV.mono g6 gg)))
      · by_cases z : b = x
        · subst z; rw [upd_same] at e; cases e; exact g5
        · rw [upd_ne z] at e; exact g2 b o e
      · have hax : a ≠ x := fun z => ha.ne (by rw [z]; exact nx)
        rw [upd_ne hax]
        exact g4 a (ha.eq (old a ha.ne))
    | ex C' fs =>
      cases h1
      refine ⟨x, dx, vs, G1, ds, _, rfl, upd_same, gx, s2, rps, q, fun d H' G' g1 g2 g3 g4 g5 => ?_⟩
      have hH : Same H1 H' := fun b o e => g3 b o (ne_of_none e nx) (by rw [old b (ne_none_of e)]; exact e)
      exact hp1 d H' G' ⟨g1, hH, g2, fun a ha => g4 a (fun z => ha.ne (by rw [z]; exact nx)) (ha.eq (old a ha.ne))⟩ g5
theorem fe_make {X : Cx} {e : Expr} {E1 : XK} {C : Addr} {g : List D → Option (R (List (Str × D)))} {fas : Env → Option (R (List D))} (h : PE X e (tMake C (spI X.K C g) [] E1 (tFA X.K (fun _ => E1) fas))) : FE X (fun _ => E1) e (fMake C g fas) :=
  PE_le h fun σ H Q q => make_core q
/-- a def __init__ as a function -/
theorem ini_core {K : PySem.W.Frag} {E : XK} {x0 : Str} {N : List Str} {C : Addr} {f : Env → Option Out} {g : List D → Option (R (List (Str × D)))} {vs : List V} {H : Hp} {Q : VK}
    (hv : ∀ x ds fs, g ds = some (.val fs) → ∃ ρ, f (.oI x C [] :: (ds.map .fz ++ List.replicate (N.length - ds.length) .un)) = some (.nx (.oI x C fs :: ρ)))
    (hx : ∀ x ds C' fs, g ds = some (.ex C' fs) → f (.oI x C [] :: (ds.map .fz ++ List.replicate (N.length - ds.length) .un)) = some (.ex C' fs))
    (h : spI K C g vs H Q E) : tFS K (fun _ => E) f { nx := fun _ H' => Q .non H', rt := Q } (L2.start (x0 :: N) vs) H := by
  obtain ⟨x, dx, vs', G, ds, r, rfl, hx0, gx, gh, rps, hg, hp⟩ := h
  have s0 := se_start (N := N) gh rps
  -- the entry without what stands at x
  obtain ⟨B, Bx, Bn⟩ : ∃ B : Hp, B x = none ∧ ∀ a, a ≠ x → B a = H a := ⟨fun a => if a = x then none else H a, if_pos rfl, fun a ha => if_neg ha⟩
  have hB : ∀ a o, a ≠ x → H a = some o → B a = some o := fun a o ha e => by rw [Bn a ha]; exact e
  have BH : Same B H := fun a o e => by
    by_cases z : a = x
    · rw [z, Bx] at e; cases e
    · rw [← Bn a z]; exact e
  have GB : Same G B := fun a o e => hB a o (ne_of_none e gx) (gh a o e)
  have st : L2.start (x0 :: N) (.ref x :: vs') = some (.ref x) :: L2.start N vs' := by simp [L2.start]
  rw [st]
  obtain ⟨F, F0, F1⟩ : ∃ F : Nat → List Addr, F 0 = [x] ∧ ∀ i, i ≠ 0 → F i = [] := ⟨fun i => if i = 0 then [x] else [], rfl, fun i hi => if_neg hi⟩
  have se : SE K G H (some (.ref x) :: L2.start N vs') (.oI x C [] :: (ds.map .fz ++ List.replicate (N.length - ds.length) .un)) F := by
    refine ⟨gh, by simpa using s0.len, fun i s hs => ?_, fun i hi => ?_, fun i p hp => ?_, fun i j p hi hj => ?_⟩
    · cases i with
      | zero => simp at hs; subst hs; rw [F0]; exact ⟨_, rfl, dx, [], rfl, rfl, hx0, All2.nil⟩
      | succ i =>
        have hs' : (ds.map Sl.fz ++ List.replicate (N.length - ds.length) .un)[i]? = some s := hs
        obtain ⟨o, h1, h2⟩ := s0.sl i s hs'
        rw [F1 _ (by omega)]
        exact ⟨o, h1, h2⟩
    · simp at hi; exact F1 i (by omega)
    · by_cases hi : i = 0
      · subst hi; rw [F0] at hp; simp at hp; subst hp; exact ⟨gx, nt_of hx0⟩
      · rw [F1 i hi] at hp; simp at hp
    · by_cases h1 : i = 0
      · by_cases h2 : j = 0
        · omega
        · rw [F1 j h2] at hj; simp at hj
      · rw [F1 i h1] at hi; simp at hi
  have bs : BS B G G H F := ⟨⟨Same.refl _, BH, gh, fun _ _ => rfl⟩, fun i p hp => by
    by_cases hi : i = 0
    · subst hi; rw [F0] at hp; simp at hp; subst hp; exact Bx
    · rw [F1 i hi] at hp; simp at hp⟩
  have oldG : ∀ G' H', Xt G B G' H' → ∀ a, a ≠ x → Nt H a → G' a = G a := fun G' H' b a z ha => b.old a (ha.eq (Bn a z))
  have oldH : ∀ G' H', Xt G B G' H' → ∀ a o, a ≠ x → H a = some o → H' a = some o := fun G' H' b a o ha e => b.h a o (hB a o ha e)
  cases r with
  | val fs =>
    obtain ⟨ρ', e⟩ := hv x ds fs hg
    refine ⟨B, G, G, _, _, _, se, bs, e, fun σ' H' G' F' se' b gg => ?_⟩
    obtain ⟨o, h1, dx', fvs, hF, _, h2, h3⟩ := se'.sl 0 _ rfl
    have gx' : G' x = none := (se'.own 0 x (by rw [hF]; simp)).1
    refine hp fvs dx' H' G' gg se'.gh (oldH G' H' b.x) (fun a ha => ?_) h2 h3
    by_cases z : a = x
    · rw [z, gx', gx]
    · exact oldG G' H' b.x a z ha
  | ex C' fs =>
    have e := hx x ds C' fs hg
    refine ⟨B, G, G, _, _, _, se, bs, e, fun σ' ρ' d H' G' F' se' b gg r => ?_⟩
    exact hp d H' G' gg se'.gh (oldH G' H' b.x) (oldG G' H' b.x) r
section
variable {P : Program} {w : World} {K : PySem.W.Frag} {mg : Str → Option Value} {base : Heap}
theorem ini_ok {x qual x0 : Str} {st : Stmt} {f C : Addr} {fd : FuncData} {N ps : List Str} {k : Nat} {body : Env → Option Out} {g : List D → Option (R (List (Str × D)))} (F : Fun K x qual st f fd) (S : FnScope (x0 :: N) ps (defScope st))
    (hl : ∀ ds r, g ds = some r → ds.length + 1 = ps.length)
    (hv : ∀ x ds fs, g ds = some (.val fs) → ∃ ρ, body (.oI x C [] :: (ds.map .fz ++ List.replicate (N.length - ds.length) .un)) = some (.nx (.oI x C fs :: ρ)))
    (hx : ∀ x ds C' fs, g ds = some (.ex C' fs) → body (.oI x C [] :: (ds.map .fz ++ List.replicate (N.length - ds.length) .un)) = some (.ex C' fs))
    (hbody : ∀ (cdv : Value) (A : Around) (outer : List PySem.Env) (s : Shared) (H : Hp) (E : XK), Room k (A.deeper (envOfC qual (defScope st) s.heap.objs.size f cdv)) →
      FSs (cxOf (L2.CX P w) P w K mg base (x0 :: N) qual (defScope st) f cdv A outer s H E) (fun _ => E) (defBody st) body) : FnOk P w K mg base (L2.CX P w) (k + 1) f fd ps (spI K C g) :=
  F.okX S (fun vs H Q E h => by
    obtain ⟨x, dx, vs', G, ds, r, rfl, _, _, _, rps, hg, _⟩ := h
    have := hl ds r hg
    rw [List.length_cons, rps.1, this]) fun cdv A outer s H vs Q E hr h => ⟨_, hbody cdv A outer s H E hr, ini_core hv hx h⟩
end
end FN

set_option Elab.async false
set_option linter.all false
set_option maxRecDepth 100000
set_option maxHeartbeats 1000000
/-! FN, part I: what the printed texts name besides. -/
namespace FN
open PySem PySem.Spec PyProof.Rows L2

/-! ### 25. what a call may let out -/
section
variable {P : Program} {w : World} {K : PySem.W.Frag} {mg : Str → Option Value} {base : Heap} {N : List Str} {qual : Str} {scope : Scope} {f : Addr} {cd : Value} {A : Around} {outer : List PySem.Env} {s : Shared} {H : Hp} {E : XK}
theorem passDef1 : Passes (L2.CX P w) (cxOf (L2.CX P w) P w K mg base N qual scope f cd A outer s H E) E := fun pins σ H' s' e s'' I c =>
  passes_call (X := cxOf (L2.CX P w) P w K mg base N qual scope f cd A outer s H E) (takes_of rfl rfl rfl rfl) (fun _ _ _ _ h => h) pins σ H' s' e s'' I c
theorem passDef : ∀ σ : L2.St, PassesAt (L2.CX P w) (cxOf (L2.CX P w) P w K mg base N qual scope f cd A outer s H E) σ ((fun _ => E : L2.St → XK) σ) := fun σ pins H' s' e s'' I c => passDef1 pins σ H' s' e s'' I c
theorem pass0E {X : Cx} : Passes (L2.CX X.prog X.w) X (fun _ _ _ => False) := passL
theorem passAt0 {X : Cx} : ∀ σ : L2.St, PassesAt (L2.CX X.prog X.w) X σ (Ez σ) := fun σ pins H' s' e s'' I c => passL (X := X) pins σ H' s' e s'' I c
end
section
variable {X : Cx} {E : L2.St → XK}
theorem fe_globI {x : Str} {n : Int} {pos : Pos} (h : ∃ t, X.mg x = some (.int n t)) (hg : Gl X x := by rfl) (hd : (x == ("__debug__" : Str)) = false := by decide) : FE X E (.Name x pos) (fC (.int n)) :=
  h.elim fun t e => fe_glob (v := .int n) e ⟨t, rfl⟩ (fun _ => .int) hg hd
theorem fe_globS {x z : Str} {pos : Pos} (h : ∃ t, X.mg x = some (.str z t)) (hg : Gl X x := by rfl) (hd : (x == ("__debug__" : Str)) = false := by decide) : FE X E (.Name x pos) (fC (.str z)) :=
  h.elim fun t e => fe_glob (v := .str z) e ⟨t, rfl⟩ (fun _ => .str) hg hd
theorem fe_cls {x : Str} {C : Addr} {pos : Pos} (h : X.mg x = some (.ref C)) (hg : Gl X x := by rfl) (hd : (x == ("__debug__" : Str)) = false := by decide) : FE X E (.Name x pos) (fC (.cls (.ref C))) :=
  fe_glob (v := .ref C) h rfl (fun _ => .cls) hg hd
end

/-! ### 26. + of texts and lists; == of data -/
def oAddS : Sl → Sl → Option Sl
  | .fz (.str a), .fz (.str b) => if a.length + b.length ≤ 1000000 then some (.fz (.str (a ++ b))) else none
  | _, _ => none
/-- a tracked list's items -/
def lstT : Sl → Option (List D)
  | .fz (.lst ds) => some ds
  | .oL ds => some ds
  | _ => none
def oAddL (s t : Sl) : Option Sl := match lstT s, lstT t with
  | some a, some b => if a.length + b.length ≤ 1000000 then some (.oL (a ++ b)) else none
  | _, _ => none
def oAddA := altG oAdd (altG oAddS oAddL)
theorem lstT_ok {K : PySem.W.Frag} {G H : Hp} {v : V} {s : Sl} {ds : List D} (h : lstT s = some ds) (b : Bw K G H v s) (gh : Same G H) : ∃ p vs, v = .ref p ∧ H p = some (.lst vs) ∧ Rps K G vs ds := by
  obtain ⟨fp, r, _⟩ := b
  cases s with
  | fz d =>
    obtain ⟨_, w, e, r⟩ := r
    cases e
    cases d with
    | lst xs => cases h; obtain ⟨p, vs, rfl, e, t⟩ := r.inv_lst; exact ⟨p, vs, rfl, gh _ _ e, t⟩
    | _ => cases h
  | oL d => obtain ⟨p, vs, _, e, h1, t⟩ := r; cases e; cases h; exact ⟨p, vs, rfl, h1, t⟩
  | _ => cases h
theorem sz_m {n : Nat} (h : n ≤ 1000000) : n ≤ sizeLine := Nat.le_trans h (by decide)
section
variable {X : Cx}
theorem ok_addS : OpOk X (binaryOp .Add) oAddS := by
  refine ⟨_, op_add_str, fun G H x y sx sy s Q gh bx bY e p => ?_⟩
  unfold oAddS at e
  split at e
  · split at e
    · rename_i hz
      cases e
      exact ⟨_, _, bx.inv_fz.inv_str, bY.inv_fz.inv_str, sz_m hz, p _ H G (.refl gh) (.fz .str)⟩
    · cases e
  · cases e
theorem ok_addL : OpOk X (binaryOp .Add) oAddL := by
  refine ⟨_, op_cat, fun G H x y sx sy s Q gh bx bY e p => ?_⟩
  unfold oAddL at e
  split at e
  · rename_i a b q1 q2
    split at e
    · rename_i hz
      cases e
      obtain ⟨l, vs, rfl, h1, r1⟩ := lstT_ok q1 bx gh
      obtain ⟨m, ws, rfl, h2, r2⟩ := lstT_ok q2 bY gh
      refine ⟨l, m, vs, ws, rfl, rfl, h1, h2, by rw [r1.1, r2.1]; exact sz_m hz, fun p' np => p _ _ G (xt_newH gh np _) ⟨[p'], ⟨p', _, rfl, rfl, upd_same, r1.append r2⟩, fun q hq => ?_⟩⟩
      simp at hq; subst hq
      exact ⟨np, gh.free np⟩
    · cases e
  · cases e
theorem ok_addA : OpOk X (binaryOp .Add) oAddA := ok_add.alt (ok_addS.alt ok_addL)
end
mutual
def toPy : D → Option PyData
  | .non => some .none
  | .bl b => some (.bool b)
  | .int i => some (.int i)
  | .str s => some (.str s)
  | .lst ds => (toPys ds).map .list
  | .scr ds => (toPys ds).map .list
  | .tup ds => (toPys ds).map .tuple
  | _ => none
def toPys : List D → Option (List PyData)
  | [] => some []
  | d :: ds => (toPy d).bind fun p => (toPys ds).map (p :: ·)
end
mutual
theorem toPy_ok {K : PySem.W.Frag} {G H : Hp} (gh : Same G H) : ∀ (d : D) (v : V) (p : PyData), Rp K G v d → toPy d = some p → Dp K H v p
  | .non, v, p, r, h => by unfold toPy at h; cases h; rw [r.inv_non]; exact .non
  | .bl b, v, p, r, h => by unfold toPy at h; cases h; rw [r.inv_bl]; exact .bl b
  | .int b, v, p, r, h => by unfold toPy at h; cases h; rw [r.inv_int]; exact .int b
  | .str b, v, p, r, h => by unfold toPy at h; cases h; rw [r.inv_str]; exact .str b
  | .lst ds, v, p, r, h => by
    unfold toPy at h
    cases q : toPys ds with
    | none => rw [q] at h; cases h
    | some ps =>
      rw [q] at h; cases h
      obtain ⟨a, vs, rfl, h1, h2⟩ := r.inv_lst
      exact .lst (.of (gh _ _ h1)) (toPys_ok gh ds vs ps h2 q)
  | .scr ds, v, p, r, h => by
    unfold toPy at h
    cases q : toPys ds with
    | none => rw [q] at h; cases h
    | some ps =>
      rw [q] at h; cases h
      obtain ⟨a, vs, rfl, h1, h2⟩ := r.inv_scr
      exact .lst (gh.seq h1) (toPys_ok gh ds vs ps h2 q)
  | .tup ds, v, p, r, h => by
    unfold toPy at h
    cases q : toPys ds with
    | none => rw [q] at h; cases h
    | some ps =>
      rw [q] at h; cases h
      obtain ⟨a, vs, rfl, h1, h2⟩ := r.inv_tup
      exact .tup (.of (gh _ _ h1)) (toPys_ok gh ds vs ps h2 q)
  | .obj _ _, v, p, r, h => by unfold toPy at h; cases h
  | .dK _, v, p, r, h => by unfold toPy at h; cases h
  | .dT _, v, p, r, h => by unfold toPy at h; cases h
  | .cls _, v, p, r, h => by unfold toPy at h; cases h
theorem toPys_ok {K : PySem.W.Frag} {G H : Hp} (gh : Same G H) : ∀ (ds : List D) (vs : List V) (ps : List PyData), Rps K G vs ds → toPys ds = some ps → DpAll K H vs ps
  | [], vs, ps, r, h => by unfold toPys at h; cases h; rw [All2.nil_r r]; exact .nil
  | d :: ds, vs, ps, r, h => by
    unfold toPys at h
    cases q1 : toPy d with
    | none => rw [q1] at h; cases h
    | some p =>
      rw [q1, Option.bind_some] at h
      cases q2 : toPys ds with
      | none => rw [q2] at h; cases h
      | some ps' =>
        rw [q2] at h; cases h
        obtain ⟨x, rest, rfl, a, b⟩ := All2.cons_r r
        exact .cons (toPy_ok gh d x p a q1) (toPys_ok gh ds rest ps' b q2)
end
/-- what stands there as data -/
def pyS (s : Sl) : Option PyData := match s with
  | .fz d => toPy d
  | .oL ds => toPy (.lst ds)
  | _ => none
theorem pyS_ok {K : PySem.W.Frag} {G H : Hp} {v : V} {s : Sl} {p : PyData} (gh : Same G H) (b : Bw K G H v s) (h : pyS s = some p) : Dp K H v p := by
  obtain ⟨fp, r, _⟩ := b
  cases s with
  | fz d =>
    obtain ⟨_, w, e, r⟩ := r
    cases e
    exact toPy_ok gh d v p r h
  | oL ds =>
    obtain ⟨a, vs, _, e, h1, t⟩ := r
    cases e
    simp only [pyS, toPy] at h
    cases q : toPys ds with
    | none => rw [q] at h; cases h
    | some ps =>
      rw [q] at h; cases h
      exact .lst (.of h1) (toPys_ok gh ds vs ps t q)
  | _ => cases h
def eqPy (s t : Sl) : Option Bool := match pyS s, pyS t with
  | some a, some b => if SeqAt.shaped a = true ∧ SeqAt.shaped b = true then some (PyData.eqv a b) else none
  | _, _ => none
def oEqD (s t : Sl) : Option Sl := (eqPy s t).map fun b => .fz (.bl b)
def oNeD (s t : Sl) : Option Sl := (eqPy s t).map fun b => .fz (.bl (!b))
def oEqA := altG oEqS oEqD
def oNeA := altG oNeS oNeD
section
variable {X : Cx}
theorem ok_eqD (hu : X.A.units + 64 < cLine) : OpOk X (compareOp .Eq) oEqD := by
  refine ⟨_, op_eqD hu, fun G H x y sx sy s Q gh bx bY e p => ?_⟩
  unfold oEqD eqPy at e
  split at e
  · rename_i a b q1 q2
    split at e
    · rename_i hs
      cases e
      exact ⟨a, b, pyS_ok gh bx q1, pyS_ok gh bY q2, hs.1, hs.2, p _ H G (.refl gh) (.fz .bl)⟩
    · cases e
  · cases e
theorem ok_neD (hu : X.A.units + 64 < cLine) : OpOk X (compareOp .NotEq) oNeD := by
  refine ⟨_, op_neD hu, fun G H x y sx sy s Q gh bx bY e p => ?_⟩
  unfold oNeD eqPy at e
  split at e
  · rename_i a b q1 q2
    split at e
    · rename_i hs
      cases e
      exact ⟨a, b, pyS_ok gh bx q1, pyS_ok gh bY q2, hs.1, hs.2, p _ H G (.refl gh) (.fz .bl)⟩
    · cases e
  · cases e
theorem ok_eqA (hu : X.A.units + 64 < cLine) : OpOk X (compareOp .Eq) oEqA := ok_eqS.alt (ok_eqD hu)
theorem ok_neA (hu : X.A.units + 64 < cLine) : OpOk X (compareOp .NotEq) oNeA := ok_neS.alt (ok_neD hu)
end

/-! ### 27. new dicts, index, pop -/
def fDnewK : Env → Option (R Sl) := fun _ => some (.val (.oK []))
def fDnewT : Env → Option (R Sl) := fun _ => some (.val (.oT []))
section
variable {X : Cx} {E : L2.St → XK} {pos : Pos}
theorem fe_dnewK : FE X E (.Dict [] [] pos) fDnewK := PE_le pe_dnewK fun σ H Q q => by
  obtain ⟨G, ρ, F, r, hs, hr, hp⟩ := q
  cases hr
  exact fun p np => hp _ _ G (xt_newH hs.gh np _) ⟨[p], ⟨p, [], rfl, rfl, upd_same, All2.nil⟩, fun q hq => by simp at hq; subst hq; exact ⟨np, hs.gh.free np⟩⟩
theorem fe_dnewT : FE X E (.Dict [] [] pos) fDnewT := PE_le pe_dnewT fun σ H Q q => by
  obtain ⟨G, ρ, F, r, hs, hr, hp⟩ := q
  cases hr
  exact fun p np => hp _ _ G (xt_newH hs.gh np _) ⟨[p], ⟨p, [], rfl, rfl, upd_same, All2.nil⟩, fun q hq => by simp at hq; subst hq; exact ⟨np, hs.gh.free np⟩⟩
end
/-- xs.index(d) -/
def ixFD (d : D) (ds : List D) : Option Nat := ds.findIdx? fun e => eqFD e d
def indexS (ds : List D) : Sl → Option Sl
  | .fz d => if flatD d = true ∧ ds.all flatD = true then (ixFD d ds).map fun j => .fz (.int (j : Nat)) else none
  | _ => none
def fIndex (fa fb : Env → Option (R Sl)) : Env → Option (R Sl) := fun ρ => bnd (fa ρ) fun x => match lstZ x with
  | some ds => bnd (fb ρ) fun y => pur (indexS ds y)
  | none => none
theorem bw_lstZ {K : PySem.W.Frag} {G H : Hp} {v : V} {s : Sl} {ds : List D} (h : lstZ s = some ds) (b : Bw K G H v s) (gh : Same G H) : tyV K "list" v H := by
  obtain ⟨p, vs, rfl, t, _⟩ := lst_items h b gh
  exact .inl ⟨rfl, vs, t⟩
section
variable {X : Cx} {E : L2.St → XK} {a b e' : Expr} {fa fb : Env → Option (R Sl)} {apos pos : Pos} {st : Stmt}
theorem index_core {K : PySem.W.Frag} {σ H Q} (w : tFE K E (fIndex fa fb) σ H Q) : tBM K "list" (rIndex K) (tFB K E fa) (tCons (tFB K E fb) tNil) σ H Q := by
  obtain ⟨G, ρ, F, r, hs, hr, hp⟩ := w
  refine useB hs hr hp.px fun sx x H1 G1 h1 x1 bx => ?_
  split at h1
  · rename_i ds q
    refine ⟨bw_lstZ q bx x1.gh, ?_⟩
    refine useB (hs.xt x1) h1 (hp.xt x1).px fun sy y H2 G2 h2 x2 bY => ?_
    obtain ⟨s, e, rfl⟩ := pur_eq h2
    unfold indexS at e
    split at e
    · rename_i d
      split at e
      · rename_i hf
        cases q2 : ixFD d ds with
        | none => rw [q2] at e; cases e
        | some j =>
          rw [q2] at e; cases e
          obtain ⟨p, vs, rfl, t, r⟩ := lst_items q (bx.xt x2) x2.gh
          have ry := bY.inv_fz
          have fl := flat_all r hf.2
          unfold ixFD at q2
          rw [List.findIdx?_eq_some_iff_getElem] at q2
          obtain ⟨hj, h3, h4⟩ := q2
          have hjv : j < vs.length := by rw [r.1]; exact hj
          have eqj : ∀ m (hm : m < ds.length), ∃ z, vs[m]? = some z ∧ eqV z y = eqFD ds[m] d := fun m hm => by
            obtain ⟨z, hz, rz⟩ := r.get (i := m) (by simp [hm] : ds[m]? = some ds[m])
            exact ⟨z, hz, eqF_ok rz ry (List.all_eq_true.mp hf.2 _ (List.getElem_mem hm)) hf.1⟩
          obtain ⟨z, hz, ez⟩ := eqj j hj
          refine ⟨p, vs, y, j, z, rfl, rfl, t, flat_ok ry hf.1, fl, hz, by rw [ez]; exact h3, fun m z' hm hz' => ?_, ((hp.xt x1).xt x2) _ H2 G2 (.refl x2.gh) (.fz .int)⟩
          obtain ⟨z2, hz2, ez2⟩ := eqj m (by omega)
          rw [hz'] at hz2
          cases hz2
          rw [ez2]
          have := h4 m hm
          simpa using this
      · cases e
    · cases e
  · cases h1
theorem fe_index (h : PE X e' (tBM X.K "list" (rIndex X.K) (tFB X.K E fa) (tCons (tFB X.K E fb) tNil))) : FE X E e' (fIndex fa fb) := PE_le h fun σ H Q q => index_core q
/-- x = y.pop() -/
def fPopA (i j : Nat) : Env → Option Out := fun ρ => match ρ[j]? with
  | some (.oL ds) => (ds[ds.length - 1]?).map fun d => .nx ((ρ.set j (.oL ds.dropLast)).set i (.fz d))
  | _ => none
theorem fs_popA {i j : Nat} (h : PS X st (tAsg (tBM0 X.K "list" rPop (tVar j)) (gName i))) : FS X E st (fPopA i j) := PS_le h fun D σ H q => by
  obtain ⟨B, G0, G, ρ, F, o, hs, hb, hr, hp⟩ := q
  unfold fPopA at hr
  split at hr
  · rename_i ds e
    cases q2 : ds[ds.length - 1]? with
    | none => rw [q2] at hr; cases hr
    | some d =>
      rw [q2] at hr; cases hr
      obtain ⟨w, h1, p, vs, hF, rfl, h2, h3⟩ := hs.sl j _ e
      refine ⟨.ref p, h1, tyV_list h2, ?_⟩
      obtain ⟨v, hv, rv⟩ := h3.get q2
      rw [← h3.1] at hv
      refine ⟨p, vs, v, rfl, rfl, h2, hv, ?_⟩
      have hpF : ∀ a, a ∉ F j → a ≠ p := fun a ha z => ha (by rw [hF, z]; simp)
      have hm := hs.mut (s' := .oL ds.dropLast) (H' := upd H p (.lst vs.dropLast)) (fp := [p]) e h1 (fun a ha => .inl (upd_ne (hpF a ha))) ⟨p, _, rfl, rfl, upd_same, h3.dropLast⟩
        (fun q hq => by simp at hq; subst hq; exact ⟨(hs.own j q (by rw [hF]; simp)).1, .inl (by rw [hF]; simp)⟩)
      have hbm := hb.mut (i := j) (fp := [p]) hm.gh (fun a ha => .inl (upd_ne (hpF a ha))) fun q hq => by simp at hq; subst hq; exact hb.o j q (by rw [hF]; simp)
      obtain ⟨F', e1, l1⟩ := hm.putz i rv
      exact hp _ _ G _ e1 (hbm.less l1) (Same.refl _)
  · cases hr
end

/-! ### 28. list(range(n)), range with a step, enumerate -/
def fListRange (f : Env → Option (R Sl)) : Env → Option (R Sl) := fun ρ => bnd (f ρ) fun s => match s with
  | .fz (.int n) => if n ≤ 1000000 ∧ -1000000 ≤ n then some (.val (.oL (rangeD 0 n.toNat))) else none
  | _ => none
def rng3 : List Sl → Option (List D)
  | [.fz (.int i), .fz (.int j), .fz (.int c)] => if c ≠ 0 ∧ c.natAbs < 1073741824 ∧ Builtin.Range.small i j c = true ∧ 0 ≤ Builtin.Range.rangeSize i j c then some ((List.range (Builtin.Range.rangeSize i j c).toNat).map fun (k : Nat) => D.int (i + (k : Nat) * c)) else none
  | _ => none
def enumD (ds : List D) : List D := ds.mapIdx fun i d => .tup [.int (i : Nat), d]
def fItEnum (f : Env → Option (R Sl)) : Env → Option (R (List D)) := fun ρ => bnd (frD (f ρ)) fun d => match d with
  | .lst ds => some (.val (enumD ds))
  | _ => none
theorem rg_rps {K : PySem.W.Frag} {G : Hp} (n : Int) : Rps K G (rgV 0 n) (rangeD 0 n.toNat) := by
  refine ⟨by rw [rgV_length, rangeD_len]; simp, fun i x y hx hy => ?_⟩
  rw [rangeD_get hy]
  unfold rgV at hx
  rw [List.getElem?_map] at hx
  cases q : (List.range (n - 0).toNat)[i]? with
  | none => rw [q] at hx; cases hx
  | some k =>
    rw [q] at hx; cases hx
    have hk : k = i := by
      have hl := (List.getElem?_eq_some_iff.mp q)
      obtain ⟨h1, h2⟩ := hl
      simpa using h2.symm
    subst hk
    exact .int
section
variable {X : Cx} {E : L2.St → XK} {tg : Expr} {fr : Bool}
theorem fe_listRange {a : Expr} {f : Env → Option (R Sl)} {p p2 pos pos2 : Pos} (hc : X.calm = true) (hl : X.mg "list" = none) (hr : X.mg "range" = none) (h : FB X E a f) (hgl : Gl X "list" := by rfl) (hgr : Gl X "range" := by rfl)
    (na : starEach [a] X.env = (false, eval a X.env) :: starEach [] X.env := by rfl) (nb : starEach [Expr.Call (.Name "range" p2) [a] [] pos2] X.env = (false, eval (Expr.Call (.Name "range" p2) [a] [] pos2) X.env) :: starEach [] X.env := by rfl) :
    FE X E (.Call (.Name "list" p) [.Call (.Name "range" p2) [a] [] pos2] [] pos) (fListRange f) := PE_le (pe_listRg hc hgl hl (prg_1 hgr hr h na) nb) fun σ H Q q => by
  obtain ⟨G, ρ, F, r, hs, hr, hp⟩ := q
  refine useB hs hr hp.px fun sx x H1 G1 h1 x1 bx => ?_
  split at h1
  · rename_i n
    split at h1
    · rename_i hz
      cases h1
      refine ⟨n, bx.inv_fz.inv_int, ⟨by omega, by omega, by omega, by omega, by omega⟩, fun q hq => ?_⟩
      refine hp.xt x1 _ _ G1 (xt_newH x1.gh hq _) ⟨[q], ⟨q, _, rfl, rfl, upd_same, rg_rps n⟩, fun q' hq' => ?_⟩
      simp at hq'; subst hq'
      exact ⟨hq, x1.gh.free hq⟩
    · cases h1
  · cases h1
theorem bs3 {K : PySem.W.Frag} {G H : Hp} {vs : List V} {s s' s'' : Sl} (bs : All2 (Bw K G H) vs [s, s', s'']) : ∃ v w u, vs = [v, w, u] ∧ Bw K G H v s ∧ Bw K G H w s' ∧ Bw K G H u s'' := by
  obtain ⟨v, rest, rfl, b, t⟩ := All2.cons_r bs
  obtain ⟨w, u, rfl, c, d⟩ := bs2 t
  exact ⟨v, w, u, rfl, b, c, d⟩
theorem fi_range3 {a b c : Expr} {fa : Env → Option (R (List Sl))} {p pos : Pos} (hm : X.mg "range" = none) (ha : FAB X E [a, b, c] fa) (hg : Gl X "range" := by rfl) (hs : starEach [a, b, c] X.env = (false, eval a X.env) :: starEach [b, c] X.env := by rfl)
    (hpl : (backTo pos (starEach [b, c] X.env)).any (·.1) = false := by rfl) : FI X E fr tg (.Call (.Name "range" p) [a, b, c] [] pos) (fRng rng3 fa) :=
  PI_le (pi_range3 hg hm ha hs hpl) fun σ H Q q => by
    obtain ⟨G, ρ, F, r, hs, hr, hp⟩ := q
    refine useAB hs hr (fun C fs e => by subst e; exact hp) fun ss vs H1 G1 h1 x1 bs => ?_
    obtain ⟨ds, e, rfl⟩ := pur_eq h1
    unfold rng3 at e
    split at e
    · rename_i i j c
      split at e
      · rename_i hc
        cases e
        obtain ⟨v, w, u, rfl, b1, b2, b3⟩ := bs3 bs
        refine ⟨i, j, c, _, by rw [b1.inv_fz.inv_int, b2.inv_fz.inv_int, b3.inv_fz.inv_int], ⟨hc.1, hc.2.1, hc.2.2.1, (Int.toNat_of_nonneg hc.2.2.2).symm⟩, hp _ H1 G1 x1 ⟨YFn fun k => .int (i + (k : Nat) * c), ?_, fun k H x H' d Gc h1 h2 h3 h4 y => ?_⟩⟩
        · rw [List.length_map, List.length_range]
          exact walk_rangeC.mono (fun _ _ => trivial) fun _ _ _ _ _ _ y => y
        · obtain ⟨rfl, rfl⟩ := y
          rw [List.getElem?_map] at h1
          cases q : (List.range (Builtin.Range.rangeSize i j c).toNat)[k]? with
          | none => rw [q] at h1; cases h1
          | some k' =>
            rw [q] at h1; cases h1
            have hk : k' = k := by
              obtain ⟨h1, h2⟩ := List.getElem?_eq_some_iff.mp q
              simpa using h2.symm
            subst hk
            exact ⟨Gc, .refl h3, .int⟩
      · cases e
    · cases e
theorem fi_enum {e : Expr} {f : Env → Option (R Sl)} {p pos tpos : Pos} {elts : List Expr} {kk : Nat} (hm : X.mg "enumerate" = none) (h : FE X E e f) (hg : Gl X "enumerate" := by rfl) (hs : starEach [e] X.env = [(false, eval e X.env)] := by rfl) (hs2 : starEach [e] X.env = (false, eval e X.env) :: starEach [] X.env := by rfl) :
    FI X E true (.Tuple elts kk tpos) (.Call (.Name "enumerate" p) [e] [] pos) (fItEnum f) := PI_le (pi_enum hg hm (pa_cons h pa_nil hs2) hs) fun σ H Q q => by
  obtain ⟨G, ρ, F, r, hs, hr, hp⟩ := q
  refine useD hs hr (fun C fs e => by subst e; exact hp) fun d v H1 G1 h1 x1 rp => ?_
  split at h1
  · rename_i ds
    cases h1
    obtain ⟨a, vs, rfl, e1, e2⟩ := rp.inv_lst
    refine ⟨a, vs, rfl, .of (x1.gh _ _ e1), hp _ H1 G1 x1 ?_⟩
    rw [if_pos rfl]
    have hl : (enumD ds).length = vs.length := by simp [enumD, e2.1]
    refine ⟨YPair (fun i => some (.int (i : Nat))) (fun i => vs[i]?), ?_, fun i H x H' d Gc h1 h2 h3 h4 y => ?_⟩
    · rw [hl]
      exact walk_enum.mono (fun H hh => .of (hh _ _ e1)) fun _ _ _ _ _ _ y => y
    · obtain ⟨T, x', y', rfl, hT, rfl, q1, q2⟩ := y
      cases q1
      obtain ⟨d', hd', rd⟩ := e2.getL q2
      unfold enumD at h1
      rw [List.getElem?_mapIdx, hd'] at h1
      cases h1
      refine ⟨upd Gc T (.tup [.int (i : Nat), y']), xt_new h3 hT _, rp_tup upd_same ?_⟩
      have gg : Same Gc (upd Gc T (.tup [.int (i : Nat), y'])) := (xt_new h3 hT _).g
      exact All2.cons .int (All2.cons ((rd.mono h2).mono gg) All2.nil)
  · cases h1
def oInv : Sl → Option Sl
  | .fz (.int i) => some (.fz (.int (Builtin.bitNot i)))
  | _ => none
theorem fe_inv {e : Expr} {f : Env → Option (R Sl)} {pos : Pos} (h : FB X E e f) : FE X E (.UnaryOp .Invert e pos) (fUn oInv f) := PE_le (pe_un un_inv h) fun σ H Q q => un_core (r := rU fun i => .int (Builtin.bitNot i)) (fun G H x sx s Q gh bx e p => by
  unfold oInv at e
  split at e
  · cases e; exact ⟨_, bx.inv_fz.inv_int, p _ H G (.refl gh) (.fz .int)⟩
  · cases e) q
end
end FN

set_option Elab.async false
set_option linter.all false
set_option maxRecDepth 100000
set_option maxHeartbeats 1000000
/-! FN, part J: items of a dict with tuple keys; a dict of one's own walked; arguments that are handed over. -/
namespace FN
open PySem PySem.Spec PyProof.Rows L2

/-! ### 29. for k, v in d.items(), tuple keys -/
def Itit (d : Addr) (o : Obj) (kvs : List (List Key × V)) : It :=
  ⟨fun i H => H d = some (.frz o (.dT kvs)) ∧ i < kvs.length, fun i H x H' => ∃ T k v q, kvs[i]? = some (k, v) ∧ x = .ref T ∧ H T = none ∧ H q = some (.tup (k.map kV)) ∧ H' = upd H T (.tup [.ref q, v]), fun i H => H d = some (.frz o (.dT kvs)) ∧ kvs.length ≤ i⟩
theorem frzTv {X : Cx} {pins : List (Addr × Obj)} {σ : L2.St} {H : Hp} {s : Shared} {d : Addr} {o : Obj} {kvs : List (List Key × V)} (I : Inv X pins σ H s) (h : H d = some (.frz o (.dT kvs))) :
    (d == sysModules) = false ∧ s.heap.get? d = some o ∧ o.ExactDict ∧ ∃ (es : Array DictEntry) (ep : Nat), o.data = .dict es ep ∧ es.size = kvs.length ∧
      ∀ (i : Nat) (k : List Key) (v : V), kvs[i]? = some (k, v) → ∃ (en : DictEntry) (q : Addr), es[i]? = some en ∧ en.key = .ref q ∧ H q = some (.tup (k.map kV)) ∧ RelV v en.val := by
  obtain ⟨hd, z, hs, xs, pr, o', es, ep, ho, hx, hdt, he, _⟩ := I.hok d _ h
  rw [hd] at ho
  cases ho
  refine ⟨hs, hd, hx, es, ep, hdt, ?_, fun i k v e => ?_⟩
  · have l1 : es.size = xs.length := size_of_entries he
    have l2 : kvs.length = xs.length := Paired.length pr
    omega
  · obtain ⟨b, hb, e1, e2, e3⟩ := paired_get pr e
    have q := entry_at he i
    rw [hb] at q
    exact ⟨_, b.2.1, q, rfl, e2, e3⟩
section
variable {P : Program} {w : World} {K : PySem.W.Frag} {tg : Expr} {d : Addr} {o : Obj} {es : Array DictEntry} {ep : Nat}
theorem turn_itemsT {kvs : List (List Key × V)} {elts : List Expr} {kk : Nat} {tpos : Pos} (it : Addr) (hod : o.data = .dict es ep) :
    Turn P w K (.Tuple elts kk tpos) (Itit d o kvs) [it] it (fun i h => ∃ ok ov, IsItemIter h it d i kvs.length ep ok ov) where
  mem := by simp
  obj := fun i h st b hb => by
    have e : b = it := by simpa using hb
    subst e
    obtain ⟨ok, ov, e⟩ := st
    exact ⟨_, e, fun v z => nomatch z⟩
  keep := fun i h h' st k => let ⟨ok, ov, e⟩ := st; ⟨ok, ov, k it (by simp) _ e⟩
  item := by
    intro X hP hw hK hc i pins s σ H E I hf st hg
    subst hP hw hK
    obtain ⟨hd, hi⟩ := hg
    obtain ⟨hs, hgd, hx, es', ep', hdt, hsz, ent⟩ := frzTv I hd
    obtain ⟨rfl, rfl⟩ := dict_ep hod hdt
    obtain ⟨⟨k, v⟩, hkv⟩ : ∃ p, kvs[i]? = some p := ⟨kvs[i], List.getElem?_eq_getElem hi⟩
    obtain ⟨en, q, hen, hkey, hq, rv⟩ := ent i k v hkv
    obtain ⟨ok, ov, he⟩ := st
    rw [← hsz] at he
    have hlt : it < s.heap.objs.size := Heap.lt_size he
    have hie : i < es'.size := by rw [hsz]; exact hi
    have een : es'[i] = en := by
      rw [Array.getElem?_eq_getElem hie] at hen
      exact Option.some.inj hen
    refine wpAny_pyNext_items_item_raw he ⟨o, hgd, hx, hdt⟩ hie fun h' ho hT hz hk => ?_
    rw [een] at ho hT
    refine ⟨_, rfl, wpAny_letOwnedTupleGo_items (s := { s with heap := h' }) ho fun h'' he' sb => ?_⟩
    have hT2 : h''.get? s.heap.objs.size = some { cls := .type "tuple", data := .seq #[en.key, en.val] } := (sb.2 _ (Nat.ne_of_gt hlt)).trans hT
    have new : ObjOk X.prog X.w (upd H s.heap.objs.size (.tup [.ref q, v])) h'' s.heap.objs.size (.tup [.ref q, v]) :=
      ⟨by show 2 ≤ sizeLine; decide, [en.key, en.val], .cons hkey (.cons rv .nil), ⟨_, hT2, rfl, _, rfl⟩⟩
    have I1 : Inv X pins σ (upd H s.heap.objs.size (.tup [.ref q, v])) { s with heap := h'' } :=
      I.turnedNew (t' := s.toks) (ch := [it]) (fun b ob hb e => (sb.2 b (by simpa using hb)).trans (hk b ob (by simpa using hb) e)) hf (Nat.le_refl _) new
    refine ⟨.ref s.heap.objs.size, _, I1, rfl, ⟨_, k, v, q, hkv, rfl, I.hok.fresh (Nat.le_refl _), hq, rfl⟩, ⟨en.key, en.val, ?_⟩, fun b hb => ?_⟩
    · rw [← hsz]; exact he'
    · have e : b = it := by simpa using hb
      rw [e, upd_ne (Nat.ne_of_lt hlt)]
      exact (hf it (by simp)).1
  done := by
    intro X hP hw hK hc i pins s σ H E I hf st hg
    subst hP hw hK
    obtain ⟨hd, hi⟩ := hg
    obtain ⟨f0, f1, f2, f3, f4, f5⟩ := hf it (by simp)
    obtain ⟨hs, hgd, hx, es', ep', hdt, hsz, ent⟩ := frzTv I hd
    obtain ⟨rfl, rfl⟩ := dict_ep hod hdt
    obtain ⟨ok, ov, he⟩ := st
    rw [← hsz] at he
    exact wpAny_pyNext_items_end_raw (I.ok.hd hc) he ⟨o, hgd, hx, hdt⟩ (by omega) fun h' eb => ⟨rfl, I.turned (t' := s.toks) (fun b ob hb e => eb b ob hb e) f0 f1 f3 f4 f5⟩
  self := fun A i s Q E st h => let ⟨_, _, e⟩ := st; PySem.W.kcp_self e h
end
def iItemsA (td : TE) : TI := fun σ H R => td σ H fun x H1 => ∃ d o, x = .ref d ∧ ((∃ kvs, H1 d = some (.frz o (.dK kvs)) ∧ R (Iti d o kvs) H1) ∨ ∃ kvs, H1 d = some (.frz o (.dT kvs)) ∧ R (Itit d o kvs) H1)
theorem pi_itemsA {X : Cx} {e : Expr} {td : TE} {apos cpos : Pos} {elts : List Expr} {kk : Nat} {tpos : Pos} (he : PE X e td) (hbase : attributeBase e "items" X.env (eval e X.env) = eval e X.env := by rfl) (hline : (apos.endLine == cpos.line) = true := by rfl) :
    PI X (.Tuple elts kk tpos) (.Call (.Attribute e "items" apos) [] [] cpos) (iItemsA td) := by
  refine ⟨fun pins s σ H R I h => ?_⟩
  refine wpAny_Call_method (T := "dict") (id := "dict.items") hbase rfl hline F.plainAttrs_dict F.slot_dict_items F.type_dict_items (thn (he.run pins s σ H _ I h) fun u s1 ⟨x, H1, I1, rx, d, o, ex, q⟩ => ?_)
  subst ex
  obtain rfl : u = Value.ref d := rx
  have I2 : Inv X pins σ H1 { s1 with heap := s1.heap.push { cls := .type "dict_items", data := .fields #[.ref d] } } := I1.kept (t' := s1.toks) fun b ob q => Heap.get?_push_of_some _ q
  rcases q with ⟨kvs, hd, q⟩ | ⟨kvs, hd, q⟩
  · obtain ⟨hs, hgd, hx, es, ep, vs, hdt, hsz, kv, hm⟩ := I1.frzK hd
    have hl : kvs.length = vs.length := Paired.length kv
    refine ⟨hm.dictOf.typeIs, hm.dictOf.mapOf.noDict, ?_⟩
    have fin : wpAny (model X.prog X.w) X.A (pyIter (.ref s1.heap.objs.size)) (PIE X pins σ (.Tuple elts kk tpos) R) X.xe { s1 with heap := s1.heap.push { cls := .type "dict_items", data := .fields #[.ref d] } } := by
      refine wpAny_pyIter_items (d := d) (knd := mixKind X.prog X.w) ⟨_, Heap.get?_push_size _ rfl, rfl, rfl⟩ (hm.push _) (pi_one (tk := s1.toks) I2 _ (turn_items _ hdt) ⟨.none, .none, ?_⟩ q)
      rw [hl]
      exact Heap.get?_push_size _ rfl
    show wpAny _ _ (callWith cpos (.builtin "dict.items") [.ref d] [] []) _ X.xe s1
    exact method_meetsIn F.slot_dict_items F.entry_dict_items rfl (PySem.evalArgs_none ⟨rfl, hm.dictOf.typeIs, F.args_dict_items_1 _, _, meets_dict_items (mixKind X.prog X.w) d hs, ⟨vs, hm.dictOf⟩, fin⟩)
  · obtain ⟨hs, hgd, hx, es, ep, hdt, hsz, ent⟩ := frzTv I1 hd
    have raw : s1.heap.DictRaw d es ep := ⟨o, hgd, hx, hdt⟩
    have nd : ∀ b, Value.ref d = .ref b → ∃ ob, s1.heap.get? b = some ob ∧ ob.dict = none := fun b z => by
      cases z
      exact ⟨o, hgd, hx.2.1⟩
    refine ⟨raw.typeIs, nd, ?_⟩
    have fin : wpAny (model X.prog X.w) X.A (pyIter (.ref s1.heap.objs.size)) (PIE X pins σ (.Tuple elts kk tpos) R) X.xe { s1 with heap := s1.heap.push { cls := .type "dict_items", data := .fields #[.ref d] } } := by
      refine wpAny_pyIter_items_raw (d := d) ⟨_, Heap.get?_push_size _ rfl, rfl, rfl⟩ (raw.at fun o e => Heap.get?_push_of_some _ e) (pi_one (tk := s1.toks) I2 _ (turn_itemsT _ hdt) ⟨.none, .none, ?_⟩ q)
      rw [← hsz]
      exact Heap.get?_push_size _ rfl
    show wpAny _ _ (callWith cpos (.builtin "dict.items") [.ref d] [] []) _ X.xe s1
    exact method_meetsIn F.slot_dict_items F.entry_dict_items rfl (PySem.evalArgs_none ⟨rfl, raw.typeIs, F.args_dict_items_1 _, _, meets_dict_items_raw d hs, ⟨es, ep, raw⟩, fin⟩)

/-! ### 30. a dict of one's own is walked (it is not named within) -/
def keyV : Key → D
  | .inl i => .int i
  | .inr s => .str s
theorem keyV_ok {K : PySem.W.Frag} {G : Hp} (k : Key) : Rp K G (kV k) (keyV k) := by
  cases k with
  | inl i => exact .int
  | inr s => exact .str
theorem keysV_ok {K : PySem.W.Frag} {G : Hp} : ∀ ks : List Key, Rps K G (ks.map kV) (ks.map keyV)
  | [] => All2.nil
  | k :: ks => All2.cons (keyV_ok k) (keysV_ok ks)
def itemsD : Sl → Option (List D)
  | .oK kvs => some (kvs.map fun kv => .tup [keyV kv.1, kv.2])
  | .oT kvs => some (kvs.map fun kv => .tup [.tup (kv.1.map keyV), kv.2])
  | _ => none
def fForIt (i : Nat) (gd : D → Env → Option Env) (b : Env → Option Out) : Env → Option Out := fun ρ => match ρ[i]? with
  | some s => (itemsD s).bind fun ds => forGo gd b ds (ρ.set i .un)
  | none => none
section
variable {K : PySem.W.Frag} {B G0 G H : Hp} {σ : L2.St} {ρ : Env} {F : Nat → List Addr}
/-- what one owns at p alone is given up; p may change -/
theorem SE.drop {i : Nat} {s : Sl} {p : Addr} {u : HO} (e : SE K G H σ ρ F) (hi : ρ[i]? = some s) (hF : F i = [p]) : SE K G (upd H p u) σ (ρ.set i .un) (clr F i) where
  gh := fun b o hb => by
    have : b ≠ p := fun z => by rw [z, (e.own i p (by rw [hF]; simp)).1] at hb; cases hb
    rw [upd_ne this]; exact e.gh b o hb
  len := by simp [e.len]
  sl := fun j t ht => by
    have hil : i < ρ.length := (List.getElem?_eq_some_iff.mp hi).1
    rw [List.getElem?_set] at ht
    by_cases q : i = j
    · subst q
      rw [if_pos rfl, if_pos hil] at ht
      cases ht
      obtain ⟨o, h1, _⟩ := e.sl i s hi
      exact ⟨o, h1, by unfold clr; rw [if_pos rfl]; rfl⟩
    · rw [if_neg q] at ht
      obtain ⟨o, h1, h2⟩ := e.sl j t ht
      refine ⟨o, h1, ?_⟩
      unfold clr; rw [if_neg (fun z => q z.symm)]
      exact h2.mono (Same.refl _) fun q' hq' => upd_ne fun z => q (e.dis i j q' (by rw [hF, z]; simp) hq')
  out := fun j hj => by
    have hil : i < ρ.length := (List.getElem?_eq_some_iff.mp hi).1
    rw [List.length_set] at hj
    unfold clr
    rw [if_neg (by omega)]
    exact e.out j hj
  own := fun j q hq => by
    unfold clr at hq
    by_cases z : j = i
    · rw [if_pos z] at hq; simp at hq
    · rw [if_neg z] at hq
      have : q ≠ p := fun z' => z (e.dis j i q hq (by rw [hF, z']; simp))
      exact ⟨(e.own j q hq).1, (e.own j q hq).2.eq (upd_ne this)⟩
  dis := fun j k q hj hk => by
    unfold clr at hj hk
    by_cases zj : j = i
    · rw [if_pos zj] at hj; simp at hj
    · by_cases zk : k = i
      · rw [if_pos zk] at hk; simp at hk
      · rw [if_neg zj] at hj; rw [if_neg zk] at hk; exact e.dis j k q hj hk
/-- what is neither frozen nor owned may change -/
theorem SE.other {p : Addr} {u : HO} (e : SE K G H σ ρ F) (gp : G p = none) (hF : ∀ i, p ∉ F i) : SE K G (upd H p u) σ ρ F where
  gh := fun b o hb => by
    have : b ≠ p := fun z => by rw [z, gp] at hb; cases hb
    rw [upd_ne this]; exact e.gh b o hb
  len := e.len
  sl := fun j t ht => by
    obtain ⟨o, h1, h2⟩ := e.sl j t ht
    exact ⟨o, h1, h2.mono (Same.refl _) fun q hq => upd_ne fun z => hF j (by rw [← z]; exact hq)⟩
  out := e.out
  own := fun j q hq => ⟨(e.own j q hq).1, (e.own j q hq).2.eq (upd_ne fun z => hF j (by rw [← z]; exact hq))⟩
  dis := e.dis
end
theorem walkD_itemsK {K : PySem.W.Frag} {d : Addr} {o : Obj} {vs : List (Key × V)} {ds : List (Key × D)} {Bz G : Hp} (hb : Bz d = some (.frz o (.dK vs))) (r : RKV K G vs ds) : WalkD K (Iti d o vs) Bz G (ds.map fun kv => .tup [keyV kv.1, kv.2]) := by
  refine ⟨YPair (fun i => vs[i]?.map fun kv => kV kv.1) (fun i => vs[i]?.map Prod.snd), ?_, fun i H x H' d' Gc h1 h2 h3 h4 y => ?_⟩
  · rw [List.length_map, ← r.1]
    exact walk_items.mono (fun H hh => hh _ _ hb) fun _ _ _ _ _ _ y => y
  · obtain ⟨T, x', y', rfl, hT, rfl, q1, q2⟩ := y
    rw [List.getElem?_map] at h1
    cases q : ds[i]? with
    | none => rw [q] at h1; cases h1
    | some kd =>
      rw [q] at h1; cases h1
      obtain ⟨kv, hkv, r1, r2⟩ := r.get q
      dsimp only at q1 q2
      rw [hkv] at q1 q2
      cases q1; cases q2
      have gg := (xt_new h3 hT (.tup [kV kv.1, kv.2])).g
      refine ⟨upd Gc T (.tup [kV kv.1, kv.2]), xt_new h3 hT _, rp_tup upd_same (All2.cons ?_ (All2.cons ((r2.mono h2).mono gg) All2.nil))⟩
      rw [r1]; exact keyV_ok _
theorem walkD_itemsT {K : PySem.W.Frag} {d : Addr} {o : Obj} {vs : List (List Key × V)} {ds : List (List Key × D)} {Bz G : Hp} (hb : Bz d = some (.frz o (.dT vs))) (r : RKV K G vs ds) : WalkD K (Itit d o vs) Bz G (ds.map fun kv => .tup [.tup (kv.1.map keyV), kv.2]) := by
  refine ⟨fun i H x H' => ∃ T k v q, vs[i]? = some (k, v) ∧ x = .ref T ∧ H T = none ∧ H q = some (.tup (k.map kV)) ∧ H' = upd H T (.tup [.ref q, v]), ⟨fun i H hi hh => ⟨hh _ _ hb, by rw [List.length_map, ← r.1] at hi; exact hi⟩, fun H hh => ⟨hh _ _ hb, by rw [List.length_map, ← r.1]; exact Nat.le_refl _⟩, fun i H x H' _ _ y => y⟩, fun i H x H' d' Gc h1 h2 h3 h4 y => ?_⟩
  obtain ⟨T, k, v, q, hkv, rfl, hT, hq, rfl⟩ := y
  rw [List.getElem?_map] at h1
  cases q0 : ds[i]? with
  | none => rw [q0] at h1; cases h1
  | some kd =>
    rw [q0] at h1; cases h1
    obtain ⟨kv, hkv', r1, r2⟩ := r.get q0
    rw [hkv] at hkv'
    cases hkv'
    dsimp only at r1 r2
    -- the key's own tuple is frozen, too
    have gT : Gc T = none := h3.free hT
    have qT : q ≠ T := fun z => by rw [z, hT] at hq; cases hq
    have g1 : Same Gc (upd Gc q (.tup (k.map kV))) := fun b o' e => by
      by_cases z : b = q
      · have := h3 b o' e
        rw [z, hq] at this
        rw [z, upd_same]; exact this
      · rw [upd_ne z]; exact e
    have x1 : Xt Gc H (upd Gc q (.tup (k.map kV))) H := ⟨g1, Same.refl _, fun b o' e => by
      by_cases z : b = q
      · rw [z, upd_same] at e; rw [z, ← e]; exact hq
      · rw [upd_ne z] at e; exact h3 b o' e, fun a ha => by
      by_cases z : a = q
      · obtain ⟨o', e, n⟩ := ha
        rw [z, hq] at e
        cases e
        exact absurd rfl (n _)
      · exact upd_ne z⟩
    have x2 := xt_new x1.gh hT (.tup [.ref q, v])
    refine ⟨_, x1.trans x2, rp_tup upd_same (All2.cons (rp_tup (x2.g _ _ upd_same) ?_) (All2.cons (((r2.mono h2).mono x1.g).mono x2.g) All2.nil))⟩
    rw [← r1]
    exact keysV_ok k
def forTail (J : It) (g : TG) (tb : TS) (D : Ends) (σ : L2.St) (H1 : Hp) : Prop := ∃ W : Nat → Nat → L2.St → Hp → Prop, (∃ m, W 0 m σ H1) ∧ ∀ i m σ H, W i m σ H →
  (J.stop i H ∧ D.nx σ H) ∨ (J.go i H ∧ ∃ N : L2.St → Hp → Prop, (∀ σ' H', N σ' H' → ∃ m', m' < m ∧ W (i + 1) m' σ' H') ∧ ∀ x H', J.yld i H x H' → g x σ H' fun σ2 H2 => tb { D with nx := N, ct := N, bk := D.nx } σ2 H2)
section
variable {X : Cx} {E : L2.St → XK}
theorem fs_forIt {i : Nat} {elts : List Expr} {kk : Nat} {tpos pos : Pos} {iter : Expr} {body : List Stmt} {gd : D → Env → Option Env} {g : TG} {b : Env → Option Out} {vs : List Nat} (hp : PassesOwn (model X.prog X.w) X.A X.env X.xe) (hc : X.calm = true)
    (hi : PI X (.Tuple elts kk tpos) iter (iItemsA (tVar i))) (hg : PG X (.Tuple elts kk tpos) g)
    (hgd : ∀ v σ H G ρ F d ρ' (Q : L2.St → Hp → Prop), SE X.K G H σ ρ F → Rp X.K G v d → gd d ρ = some ρ' → (∀ σ' F', SE X.K G H σ' ρ' F' → Less F F' → wipe σ' vs = wipe σ vs → Q σ' H) → g v σ H Q)
    (hb : FSs X E body b) (hfs : ∀ x, foldedSetIterable iter X.env x = pure x := by intro _; rfl) : FS X E (.For (.Tuple elts kk tpos) iter body [] pos) (fForIt i gd b) :=
  PS_le (ps_lock (ps_for (tb := tFS X.K E b) hp hc hi hg hb hfs)) fun D σ H q => by
  obtain ⟨B, G0, G, ρ, F, o, hs, hb, hr, hp⟩ := q
  unfold fForIt at hr
  split at hr
  · rename_i s e
    cases qs : itemsD s with
    | none => rw [qs] at hr; cases hr
    | some ds =>
      rw [qs, Option.bind_some] at hr
      obtain ⟨w, h1, h2⟩ := hs.sl i s e
      -- the dict at p, what stands there
      obtain ⟨p, u, hF, rfl, h3, mu, wk⟩ : ∃ p u, F i = [p] ∧ w = some (.ref p) ∧ H p = some u ∧ Mut (some u) ∧ ∀ (od : Obj) (Bz : Hp), Bz p = some (.frz od u) → (∃ kvs, u = .dK kvs ∧ WalkD X.K (Iti p od kvs) Bz G ds) ∨ ∃ kvs, u = .dT kvs ∧ WalkD X.K (Itit p od kvs) Bz G ds := by
        cases s with
        | oK kvs =>
          cases qs
          obtain ⟨p, us, hF, hw, h3, h4⟩ := h2
          exact ⟨p, _, hF, hw, h3, trivial, fun od Bz hB => .inl ⟨us, rfl, walkD_itemsK hB h4⟩⟩
        | oT kvs =>
          cases qs
          obtain ⟨p, us, hF, hw, h3, h4⟩ := h2
          exact ⟨p, _, hF, hw, h3, trivial, fun od Bz hB => .inr ⟨us, rfl, walkD_itemsT hB h4⟩⟩
        | _ => cases qs
      refine ⟨p, u, h3, mu, fun od => ?_⟩
      have gp : G p = none := (hs.own i p (by rw [hF]; simp)).1
      have Bp : B p = none := hb.o i p (by rw [hF]; simp)
      have g0p : G0 p = none := by
        cases z : G0 p with
        | none => rfl
        | some o' => rw [hb.x.g p o' z] at gp; cases gp
      have se := hs.drop (u := .frz od u) e hF
      -- the entry, with the locked dict
      have bs : BS (upd B p (.frz od u)) G0 G (upd H p (.frz od u)) (clr F i) := ⟨⟨hb.x.g, fun a o' ha => by
        by_cases z : a = p
        · rw [z, upd_same] at ha ⊢; exact ha
        · rw [upd_ne z] at ha ⊢; exact hb.x.h a o' ha, se.gh, fun a ha => by
        by_cases z : a = p
        · rw [z, gp, g0p]
        · exact hb.x.old a (by obtain ⟨o', q1, q2⟩ := ha; rw [upd_ne z] at q1; exact ⟨o', q1, q2⟩)⟩, fun j q hq => by
        unfold clr at hq
        by_cases z : j = i
        · rw [if_pos z] at hq; simp at hq
        · rw [if_neg z] at hq
          rw [upd_ne fun z' => z (hs.dis j i q hq (by rw [hF, z']; simp))]
          exact hb.o j q hq⟩
      -- behind: the dict is as it was
      have back : ∀ {σ' : L2.St} {H' G' : Hp} {ρ' : Env} {F' : Nat → List Addr}, SE X.K G' H' σ' ρ' F' → BS (upd B p (.frz od u)) G0 G' H' F' → H' p = some (.frz od u) ∧ SE X.K G' (upd H' p u) σ' ρ' F' ∧ BS B G0 G' (upd H' p u) F' ∧ SE X.K G' H' σ' ρ' F' ∧ BS B G0 G' H' F' := fun {σ' H' G' ρ' F'} a b => by
        have hp' : H' p = some (.frz od u) := b.x.h p _ upd_same
        have gp' : G' p = none := (b.x.old p (nt_of upd_same)).trans g0p
        have pF : ∀ j, p ∉ F' j := fun j z => by have := b.o j p z; rw [upd_same] at this; cases this
        have bo : ∀ j q, q ∈ F' j → B q = none := fun j q hq => by
          have := b.o j q hq
          rw [upd_ne fun z => pF j (by rw [← z]; exact hq)] at this
          exact this
        have hB : Same B H' := fun a o' ha => b.x.h a o' (by rw [upd_ne (ne_of_none ha Bp)]; exact ha)
        have old : ∀ a, Nt B a → G' a = G0 a := fun a ha => b.x.old a (by obtain ⟨o', q1, q2⟩ := ha; exact ⟨o', by rw [upd_ne (ne_of_none q1 Bp)]; exact q1, q2⟩)
        have se' := a.other (u := u) gp' pF
        exact ⟨hp', se', ⟨⟨b.x.g, fun a o' ha => by rw [upd_ne (ne_of_none ha Bp)]; exact hB a o' ha, se'.gh, old⟩, bo⟩, a, ⟨b.x.g, hB, b.x.gh, old⟩, bo⟩
      refine ⟨.ref p, h1, ?_⟩
      suffices rest : ∀ J, WalkD X.K J (upd B p (.frz od u)) G ds → forTail J g (tFS X.K E b) ⟨fun σ' H' => H' p = some (.frz od u) ∧ D.nx σ' (upd H' p u), fun v H' => H' p = some (.frz od u) ∧ D.rt v (upd H' p u), fun σ' H' => H' p = some (.frz od u) ∧ D.bk σ' (upd H' p u), fun σ' H' => H' p = some (.frz od u) ∧ D.ct σ' (upd H' p u)⟩ σ (upd H p (.frz od u)) by
        rcases wk od (upd B p (.frz od u)) upd_same with ⟨kvs, ku, w⟩ | ⟨kvs, ku, w⟩
        · exact ⟨p, od, rfl, .inl ⟨kvs, by rw [upd_same, ku], rest _ w⟩⟩
        · exact ⟨p, od, rfl, .inr ⟨kvs, by rw [upd_same, ku], rest _ w⟩⟩
      intro J wk
      obtain ⟨Y, wk, wy⟩ := wk
      refine for_it wk (fun n σ H => ∃ G' ρ' F', SE X.K G' H σ ρ' F' ∧ BS (upd B p (.frz od u)) G0 G' H F' ∧ Same G G' ∧ forGo gd b (ds.drop n) ρ' = some o) ?_ ?_ ?_ ?_
      · exact ⟨G, _, _, se, bs, Same.refl _, by rw [List.drop_zero]; exact hr⟩
      · rintro n σ2 H2 hn ⟨G', ρ', F', s', b', g', _⟩
        exact b'.x.h
      · rintro n x σ2 H2 H3 hn ⟨G2, ρ2, F2, s2, b2, g2, hgo⟩ y
        obtain ⟨d, hd⟩ : ∃ d, ds[n]? = some d := ⟨ds[n], by simp [hn]⟩
        obtain ⟨G3, xx2, rx⟩ := wy n H2 x H3 d G2 hd g2 s2.gh b2.x.h y
        have hdrop : ds.drop n = d :: ds.drop (n + 1) := by
          have h1 : n < ds.length := hn
          rw [List.drop_eq_getElem_cons h1]
          rw [List.getElem?_eq_getElem h1] at hd
          cases hd; rfl
        rw [hdrop] at hgo
        unfold forGo at hgo
        cases q3 : gd d ρ2 with
        | none => rw [q3] at hgo; cases hgo
        | some ρ3 =>
          rw [q3, Option.bind_some] at hgo
          refine hgd x σ2 H3 G3 ρ2 F2 d ρ3 _ (s2.xt xx2) rx q3 fun σ3 F3 s3 l3 _ => ?_
          have b3 := (b2.xt xx2).less l3
          have g3 := g2.trans xx2.g
          split at hgo
          · rename_i ρ' e
            exact ⟨_, G0, G3, ρ3, F3, _, s3, b3, e, fun σ' H' G' F' a b' c => ⟨G', ρ', F', a, b', g3.trans c, hgo⟩⟩
          · rename_i ρ' e
            exact ⟨_, G0, G3, ρ3, F3, _, s3, b3, e, fun σ' H' G' F' a b' c => ⟨G', ρ', F', a, b', g3.trans c, hgo⟩⟩
          · rename_i ρ' e
            cases hgo
            refine ⟨_, G0, G3, ρ3, F3, _, s3, b3, e, fun σ' H' G' F' a b' c => ?_⟩
            obtain ⟨k1, k2, k3, _⟩ := back a b'
            exact ⟨k1, hp σ' _ G' F' k2 k3 (g3.trans c)⟩
          · rename_i e1 e2 e3
            refine ⟨_, G0, G3, ρ3, F3, o, s3, b3, hgo, ?_⟩
            cases o with
            | nx r => exact absurd hgo (e1 r)
            | ct r => exact absurd hgo (e2 r)
            | bk r => exact absurd hgo (e3 r)
            | rt s =>
              intro v H' G' xt gg ow
              have hp' : H' p = some (.frz od u) := xt.h p _ upd_same
              have gp' : G' p = none := (xt.old p (nt_of upd_same)).trans g0p
              obtain ⟨fp, r, hf⟩ := ow
              have pfp : ∀ q ∈ fp, q ≠ p := fun q hq z => by have := (hf q hq).1; rw [z, upd_same] at this; cases this
              refine ⟨hp', hp v _ G' ⟨xt.g, fun a o' ha => ?_, fun a o' ha => ?_, fun a ha => ?_⟩ (g3.trans gg) ⟨fp, r.mono (Same.refl _) fun q hq => upd_ne (pfp q hq), fun q hq => ⟨?_, (hf q hq).2⟩⟩⟩
              · rw [upd_ne (ne_of_none ha Bp)]; exact xt.h a o' (by rw [upd_ne (ne_of_none ha Bp)]; exact ha)
              · rw [upd_ne (ne_of_none ha gp')]; exact xt.gh a o' ha
              · exact xt.old a (by obtain ⟨o', q1, q2⟩ := ha; exact ⟨o', by rw [upd_ne (ne_of_none q1 Bp)]; exact q1, q2⟩)
              · have := (hf q hq).1; rw [upd_ne (pfp q hq)] at this; exact this
            | ex C fs =>
              intro σ' ρ' d' H' G' F' a b' c r
              obtain ⟨_, _, _, k4, k5⟩ := back a b'
              exact hp σ' ρ' d' H' G' F' k4 k5 (g3.trans c) r
      · rintro σ2 H2 ⟨G2, ρ2, F2, s2, b2, g2, hgo⟩
        rw [List.drop_length] at hgo
        cases hgo
        obtain ⟨k1, k2, k3, _⟩ := back s2 b2
        exact ⟨k1, hp σ2 _ G2 F2 k2 k3 g2⟩
  · cases hr
end
end FN

set_option Elab.async false
set_option linter.all false
set_option maxRecDepth 100000
set_option maxHeartbeats 1000000
/-! FN, part K: arguments that are handed over (what is one's own becomes the callee's own). -/
namespace FN
open PySem PySem.Spec PyProof.Rows L2

def spM (K : PySem.W.Frag) (g : List Sl → Option (R Sl)) : Sp := fun vs H Q E => ∃ B G ss F r, SE K G H (vs.map some) ss F ∧ Same B H ∧ Same G B ∧ (∀ i p, p ∈ F i → B p = none) ∧ g ss = some r ∧ PoE K E G B Q r
def fDefM (n : Nat) (f : Env → Option Out) : List Sl → Option (R Sl) := fun ss => match f (ss ++ List.replicate (n - ss.length) .un) with
  | some (.rt s) => some (.val s)
  | some (.nx _) => some (.val (.fz .non))
  | some (.ex C fs) => some (.ex C fs)
  | _ => none
def gDefM (m n : Nat) (f : Env → Option Out) : List Sl → Option (R Sl) := fun ss => if ss.length = m then fDefM n f ss else none
theorem se_startM {K : PySem.W.Frag} {G H : Hp} {N : List Str} {vs : List V} {ss : List Sl} {F : Nat → List Addr} (e : SE K G H (vs.map some) ss F) : SE K G H (L2.start N vs) (ss ++ List.replicate (N.length - ss.length) .un) F where
  gh := e.gh
  len := by have := e.len; simp at this; simp [L2.start, this]
  sl := fun i s hs => by
    have hl : vs.length = ss.length := by have := e.len; simpa using this
    by_cases hi : i < ss.length
    · rw [List.getElem?_append_left hi] at hs
      obtain ⟨o, h1, h2⟩ := e.sl i s hs
      refine ⟨o, ?_, h2⟩
      unfold L2.start
      rw [List.getElem?_append_left (by simpa [hl] using hi)]
      exact h1
    · rw [List.getElem?_append_right (by omega), List.getElem?_replicate] at hs
      split at hs
      · rename_i h
        cases hs
        refine ⟨none, ?_, e.out i (by omega)⟩
        unfold L2.start
        rw [List.getElem?_append_right (by simp; omega), List.getElem?_replicate, if_pos (by simp; omega)]
      · cases hs
  out := fun i hi => e.out i (by simp at hi; omega)
  own := e.own
  dis := e.dis
theorem defM_core {K : PySem.W.Frag} {E : XK} {N : List Str} {m : Nat} {f : Env → Option Out} {vs : List V} {H : Hp} {Q : VK} (h : spM K (gDefM m N.length f) vs H Q E) : tFS K (fun _ => E) f { nx := fun _ H' => Q .non H', rt := Q } (L2.start N vs) H := by
  obtain ⟨B, G, ss, F, r, se0, bH, gB, hF, hg, hp⟩ := h
  unfold gDefM at hg
  split at hg
  · unfold fDefM at hg
    have se := se_startM (N := N) se0
    have bs : BS B G G H F := ⟨⟨Same.refl _, bH, se0.gh, fun _ _ => rfl⟩, hF⟩
    split at hg
    · rename_i s e
      cases hg
      exact ⟨B, G, G, _, _, _, se, bs, e, fun v H' G' x _ o => hp v H' G' x o⟩
    · rename_i ρ' e
      cases hg
      exact ⟨B, G, G, _, _, _, se, bs, e, fun σ' H' G' F' _ b _ => hp .non H' G' b.x (.fz .non)⟩
    · rename_i C fs e
      cases hg
      exact ⟨B, G, G, _, _, _, se, bs, e, fun σ' ρ' d H' G' F' _ b _ r => hp d H' G' b.x r⟩
    · cases hg
  · cases hg
theorem spM_len {K : PySem.W.Frag} {m n : Nat} {f : Env → Option Out} : ∀ vs H Q E, spM K (gDefM m n f) vs H Q E → vs.length = m := fun vs H Q E h => by
  obtain ⟨B, G, ss, F, r, se, _, _, _, hg, hp⟩ := h
  unfold gDefM at hg
  split at hg
  · rename_i q; have := se.len; simp at this; rw [this, q]
  · cases hg
section
variable {P : Program} {w : World} {K : PySem.W.Frag} {mg : Str → Option Value} {base : Heap}
theorem def_okM {x qual : Str} {st : Stmt} {f : Addr} {fd : FuncData} {N ps : List Str} {k : Nat} {body : Env → Option Out} (F : Fun K x qual st f fd) (S : FnScope N ps (defScope st))
    (hbody : ∀ (cdv : Value) (A : Around) (outer : List PySem.Env) (s : Shared) (H : Hp) (E : XK), Room k (A.deeper (envOfC qual (defScope st) s.heap.objs.size f cdv)) →
      FSs (cxOf (L2.CX P w) P w K mg base N qual (defScope st) f cdv A outer s H E) (fun _ => E) (defBody st) body) : FnOk P w K mg base (L2.CX P w) (k + 1) f fd ps (spM K (gDefM ps.length N.length body)) :=
  F.okX S (fun vs H Q E h => spM_len vs H Q E h) fun cdv A outer s H vs Q E hr h => ⟨_, hbody cdv A outer s H E hr, defM_core h⟩
end
/-- arguments with what they own -/
def PoM (K : PySem.W.Frag) (E : XK) (G H : Hp) (Q : List V → Hp → Prop) : R (List Sl) → Prop
  | .val ss => ∀ vs H' G' F', Xt G H G' H' → SE K G' H' (vs.map some) ss F' → (∀ i p, p ∈ F' i → H p = none) → Q vs H'
  | .ex C fs => PX K E G H C fs
def tFM (K : PySem.W.Frag) (E : L2.St → XK) (f : Env → Option (R (List Sl))) : TA := fun σ H Q => ∃ G ρ F r, SE K G H σ ρ F ∧ f ρ = some r ∧ PoM K (E σ) G H Q r
def FM (X : Cx) (E : L2.St → XK) (es : List Expr) (f : Env → Option (R (List Sl))) : Prop := PA X es (tFM X.K E f)
theorem PoM.xt {K : PySem.W.Frag} {E : XK} {G H G1 H1 : Hp} {Q : List V → Hp → Prop} {r : R (List Sl)} (h : PoM K E G H Q r) (x : Xt G H G1 H1) : PoM K E G1 H1 Q r := by
  cases r with
  | val s => exact fun v H' G' F' y z n => h v H' G' F' (x.trans y) z fun i p hp => x.h.free (n i p hp)
  | ex C fs => exact PX.xt h x
theorem PoM.px {K : PySem.W.Frag} {E : XK} {G H : Hp} {Q : List V → Hp → Prop} {r : R (List Sl)} (h : PoM K E G H Q r) : ∀ C fs, r = .ex C fs → PX K E G H C fs := fun _ _ e => by subst e; exact h
theorem useM {K : PySem.W.Frag} {β : Type} {r : R β} {G H : Hp} {σ : L2.St} {ρ : Env} {F : Nat → List Addr} {E : L2.St → XK} {fa : Env → Option (R (List Sl))} {k : List Sl → Option (R β)} (hs : SE K G H σ ρ F) (h : bnd (fa ρ) k = some r) (px : ∀ C fs, r = .ex C fs → PX K (E σ) G H C fs) {Q : List V → Hp → Prop}
    (ct : ∀ ss vs H1 G1 F1, k ss = some r → Xt G H G1 H1 → SE K G1 H1 (vs.map some) ss F1 → (∀ i p, p ∈ F1 i → H p = none) → Q vs H1) : tFM K E fa σ H Q := by
  cases q : fa ρ with
  | none => rw [q] at h; cases h
  | some x =>
    rw [q] at h
    cases x with
    | val s => exact ⟨G, ρ, F, _, hs, q, fun v H' G' F' xt a b => ct s v H' G' F' h xt a b⟩
    | ex C fs => cases h; exact ⟨G, ρ, F, _, hs, q, px C fs rfl⟩
def fConsM (f : Env → Option (R Sl)) (g : Env → Option (R (List Sl))) : Env → Option (R (List Sl)) := fun ρ => bnd (f ρ) fun d => bnd (g ρ) fun ds => some (.val (d :: ds))
def fCallM (g : List Sl → Option (R Sl)) (fas : Env → Option (R (List Sl))) : Env → Option (R Sl) := fun ρ => bnd (fas ρ) g
section
variable {X : Cx} {E : L2.St → XK} {k : Nat} {f : Addr} {fd : FuncData} {ps : List Str} {g : List Sl → Option (R Sl)} {x : Str} {p pos : Pos} {e : Expr} {es : List Expr}
theorem fm_nil : FM X E [] fNil := PA_le pa_nil fun σ H Q h => by
  obtain ⟨G, ρ, F, r, hs, hr, hp⟩ := h
  cases hr
  exact hp [] H G (fun _ => []) (.refl hs.gh) ⟨hs.gh, rfl, fun i s h => by simp at h, fun _ _ => rfl, fun i p h => by simp at h, fun i j p h => by simp at h⟩ fun i p h => by simp at h
theorem fm_cons {f : Env → Option (R Sl)} {g : Env → Option (R (List Sl))} (h : FE X E e f) (t : FM X E es g) (hs : starEach (e :: es) X.env = (false, eval e X.env) :: starEach es X.env := by rfl) : FM X E (e :: es) (fConsM f g) := PA_le (pa_cons h t hs) fun σ H Q q => by
  obtain ⟨G, ρ, F, r, hs, hr, hp⟩ := q
  refine useE hs hr hp.px fun s v H1 G1 h1 x1 ow => ?_
  refine useM (hs.xt x1) h1 (hp.xt x1).px fun ss vs H2 G2 F2 h2 x2 se fr => ?_
  cases h2
  obtain ⟨fp, rp, hf⟩ := ow
  have hfp : ∀ p ∈ fp, H2 p = H1 p ∧ G2 p = none := fun p hp => ⟨Same.some x2.h (rp.mem_ne p hp).ne, (x2.old p (rp.mem_ne p hp)).trans (hf p hp).2⟩
  have r2 : RpS X.K G2 H2 (some v) s fp := rp.mono x2.g fun p hp => (hfp p hp).1
  refine hp (v :: vs) H2 G2 (fun i => match i with | 0 => fp | i + 1 => F2 i) (x1.trans x2) ⟨x2.gh, by have := se.len; simpa using this, fun i t ht => ?_, fun i hi => ?_, fun i p hp => ?_, fun i j p hi hj => ?_⟩ fun i p hp => ?_
  · cases i with
    | zero => simp at ht; subst ht; exact ⟨_, rfl, r2⟩
    | succ i =>
      have ht' : ss[i]? = some t := by simpa using ht
      obtain ⟨o, a, b⟩ := se.sl i t ht'
      exact ⟨o, by simpa using a, b⟩
  · cases i with
    | zero => simp at hi
    | succ i => exact se.out i (by simpa using hi)
  · cases i with
    | zero => exact ⟨(hfp p hp).2, (rp.mem_ne p hp).same x2.h⟩
    | succ i => exact se.own i p hp
  · cases i with
    | zero =>
      cases j with
      | zero => rfl
      | succ j => exact absurd (fr j p hj) (rp.mem_ne p hi).ne
    | succ i =>
      cases j with
      | zero => exact absurd (fr i p hi) (rp.mem_ne p hj).ne
      | succ j => rw [se.dis i j p hi hj]
  · cases i with
    | zero => exact (hf p hp).1
    | succ i => exact x1.h.free (fr i p hp)
open Classical in
theorem callM_core {K : PySem.W.Frag} {fas : Env → Option (R (List Sl))} {σ H Q} (h : tFE K E (fCallM g fas) σ H Q) : tCallS (spM K g) E (tFM K E fas) σ H Q := by
  obtain ⟨G, ρ, F, r, hs, hr, hp⟩ := h
  refine useM hs hr hp.px fun ss vs H1 G1 F1 h1 x1 se fr => ?_
  obtain ⟨B, Bn, Bo⟩ : ∃ B : Hp, (∀ i p, p ∈ F1 i → B p = none) ∧ ∀ p, (∀ i, p ∉ F1 i) → B p = H1 p :=
    ⟨fun p => if ∃ i, p ∈ F1 i then none else H1 p, fun i p hp => if_pos ⟨i, hp⟩, fun p hp => if_neg fun ⟨i, z⟩ => hp i z⟩
  have bH : Same B H1 := fun a o e => by
    by_cases z : ∃ i, a ∈ F1 i
    · obtain ⟨i, z⟩ := z; rw [Bn i a z] at e; cases e
    · rw [← Bo a fun i q => z ⟨i, q⟩]; exact e
  have inB : ∀ a o, (∀ i, a ∉ F1 i) → H1 a = some o → B a = some o := fun a o n e => by rw [Bo a n]; exact e
  have gB : Same G1 B := fun a o e => inB a o (fun i z => by rw [(se.own i a z).1] at e; cases e) (x1.gh a o e)
  have hB : Same H B := fun a o e => inB a o (fun i z => by rw [fr i a z] at e; cases e) (x1.h a o e)
  exact ⟨B, G1, ss, F1, r, se, bH, gB, Bn, h1, hp.xt ⟨x1.g, hB, gB, x1.old⟩⟩
theorem fe_callM {fas : Env → Option (R (List Sl))} (Fn : FnOk X.prog X.w X.K X.mg X.base (L2.CX X.prog X.w) k f fd ps (spM X.K g)) (hr : Room k X.A) (hm : X.mg x = some (.ref f)) (hk : PySem.W.keepIn X.K (.ref f) = true) (hb : Binds X.K fd ps []) (hx : ∀ σ, PassesAt (L2.CX X.prog X.w) X σ (E σ))
    (ha : FM X E (e :: es) fas) (hg : Gl X x := by rfl) (hdb : (x == ("__debug__" : Str)) = false := by decide) (he : starEach (e :: es) X.env = (false, eval e X.env) :: starEach es X.env := by rfl) (hpl : (backTo pos (starEach es X.env)).any (·.1) = false := by rfl) :
    FE X E (.Call (.Name x p) (e :: es) [] pos) (fCallM g fas) := PE_le (pe_callS Fn hr hg hm hk hb hx ha hdb he hpl) fun σ H Q h => callM_core h
end
end FN

set_option Elab.async false
set_option linter.all false
set_option maxRecDepth 100000
set_option maxHeartbeats 1000000
/-! FN, part L: more built-in calls. -/
namespace FN
open PySem PySem.Spec PyProof.Rows L2
def gDivmod : List Sl → Option Sl
  | [.fz (.int i), .fz (.int j)] => if cDiv i j then some (.fz (.tup [.int (i / j), .int (i % j)])) else none
  | _ => none
section
variable {X : Cx}
theorem ok_divmod : CallOk X (.builtin "divmod") gDivmod := by
  refine ⟨_, call_divmodW, fun G H vs ss s Q gh bs e p => ?_⟩
  unfold gDivmod at e
  split at e
  · split at e
    · rename_i hc
      cases e
      obtain ⟨v, w, rfl, b, c⟩ := bs2 bs
      refine ⟨_, _, by rw [b.inv_fz.inv_int, c.inv_fz.inv_int], ⟨hc.1, PyProof.noPylong_of_log2 hc.2⟩, fun q np => p _ _ _ (xt_new gh np _) (.fz (rp_tup upd_same (All2.cons .int (All2.cons .int All2.nil))))⟩
    · cases e
  · cases e
end
end FN

set_option Elab.async false
set_option linter.all false
set_option maxRecDepth 100000
set_option maxHeartbeats 1000000
/-! FN, part M: how the functions are reckoned: rewriting rules, loops by their invariants. -/
namespace FN
open PySem PySem.Spec PyProof.Rows L2

def inG (neg : Bool) (x y : Sl) : Option Sl := match oInL neg x y with | some s => some s | none => dIn neg x y
theorem inG_of {neg : Bool} {x y s : Sl} (h : oInL neg x y = some s) : inG neg x y = some s := by unfold inG; rw [h]
section
variable {ρ : Env} {i j : Nat} {d : D} {n k : Int} {f g : Env → Option (R Sl)} {t u : Env → Option (R Bool)} {p q : Env → Option Out}
@[simp] theorem ev_var : fVar i ρ = match ρ[i]? with | some (.fz d) => some (.val (.fz d)) | _ => none := rfl
@[simp] theorem ev_varB : fVarB i ρ = match ρ[i]? with | some .un => none | some s => some (.val s) | none => none := rfl
@[simp] theorem ev_c : fC d ρ = some (.val (.fz d)) := rfl
@[simp] theorem ev_op {o : Sl → Sl → Option Sl} : fOp o f g ρ = bnd (f ρ) fun x => bnd (g ρ) fun y => pur (o x y) := rfl
@[simp] theorem ev_T : fT f ρ = asB (f ρ) := rfl
@[simp] theorem ev_asB {b : Bool} : asB (some (.val (.fz (.bl b)))) = some (.val b) := rfl
@[simp] theorem ev_and : fAnd t u ρ = bnd (t ρ) fun b => if b = true then u ρ else some (.val false) := rfl
@[simp] theorem ev_or : fOr t u ρ = bnd (t ρ) fun b => if b = true then some (.val true) else u ρ := rfl
@[simp] theorem ev_not : fNot t ρ = bnd (t ρ) fun b => some (.val (!b)) := rfl
@[simp] theorem ev_andV : fAndV f g ρ = bnd (asB (f ρ)) fun b => if b = true then g ρ else some (.val (.fz (.bl false))) := rfl
@[simp] theorem ev_orV : fOrV f g ρ = bnd (asB (f ρ)) fun b => if b = true then some (.val (.fz (.bl true))) else g ρ := rfl
@[simp] theorem ev_notV : fNotV f ρ = bnd (asB (f ρ)) fun b => some (.val (.fz (.bl (!b)))) := rfl
@[simp] theorem ev_if : fIf t f g ρ = bnd (t ρ) fun b => if b = true then f ρ else g ρ := rfl
@[simp] theorem ev_ix : fIx f g ρ = bnd (f ρ) fun x => bnd (g ρ) fun y => pur (ixS x y) := rfl
@[simp] theorem ev_nil {α : Type} : (fNil : Env → Option (R (List α))) ρ = some (.val []) := rfl
@[simp] theorem ev_cons {h : Env → Option (R (List D))} : fCons f h ρ = bnd (frD (f ρ)) fun d => bnd (h ρ) fun ds => some (.val (d :: ds)) := rfl
@[simp] theorem ev_consB {h : Env → Option (R (List Sl))} : fConsB f h ρ = bnd (f ρ) fun d => bnd (h ρ) fun ds => some (.val (d :: ds)) := rfl
@[simp] theorem ev_consM {h : Env → Option (R (List Sl))} : fConsM f h ρ = bnd (f ρ) fun d => bnd (h ρ) fun ds => some (.val (d :: ds)) := rfl
@[simp] theorem ev_frD {s : Sl} : frD (some (.val s)) = pur s.fr := rfl
@[simp] theorem ev_fr_fz : (Sl.fz d).fr = some d := rfl
@[simp] theorem ev_fr_oL {ds : List D} : (Sl.oL ds).fr = some (.lst ds) := rfl
@[simp] theorem ev_fr_oK {ds : List (Key × D)} : (Sl.oK ds).fr = some (.dK ds) := rfl
@[simp] theorem ev_fr_oT {ds : List (List Key × D)} : (Sl.oT ds).fr = some (.dT ds) := rfl
@[simp] theorem ev_tup {h : Env → Option (R (List D))} : fTup h ρ = bnd (h ρ) fun ds => if ds.length ≤ 100000 then some (.val (.fz (.tup ds))) else none := rfl
@[simp] theorem ev_lst {h : Env → Option (R (List D))} : fLst h ρ = bnd (h ρ) fun ds => if ds.length ≤ 100000 then some (.val (.oL ds)) else none := rfl
@[simp] theorem ev_cb {g : List Sl → Option Sl} {h : Env → Option (R (List Sl))} : fCB g h ρ = bnd (h ρ) fun ss => pur (g ss) := rfl
@[simp] theorem ev_un {g : Sl → Option Sl} : fUn g f ρ = bnd (f ρ) fun s => pur (g s) := rfl
@[simp] theorem ev_neg : oNeg (.fz (.int n)) = some (.fz (.int (-n))) := rfl
@[simp] theorem ev_call {g : List D → Option (R Sl)} {h : Env → Option (R (List D))} : fCall g h ρ = bnd (h ρ) g := rfl
@[simp] theorem ev_callM {g : List Sl → Option (R Sl)} {h : Env → Option (R (List Sl))} : fCallM g h ρ = bnd (h ρ) g := rfl
@[simp] theorem ev_callW {g : List D → Option (R Sl)} {h : Env → Option (R (List Sl))} : fCallW g h ρ = bnd (h ρ) fun ss => match frAll ss with | some ds => flatR (g ds) | none => none := rfl
@[simp] theorem ev_make {C : Addr} {g : List D → Option (R (List (Str × D)))} {h : Env → Option (R (List D))} : fMake C g h ρ = bnd (h ρ) fun ds => bnd (g ds) fun fs => some (.val (.fz (.obj C fs))) := rfl
@[simp] theorem ev_meth {C : Addr} {m : Str} {g : List D → Option (R Sl)} {h : Env → Option (R (List D))} : fMeth C m g f h ρ = bnd (frD (f ρ)) fun o => match o with
  | .obj C' fs => if C' = C ∧ fs.lookup m = none then bnd (h ρ) fun ds => g (.obj C' fs :: ds) else none
  | _ => none := rfl
@[simp] theorem ev_slice {l h : Env → Option (R (Option Int))} : fSlice f l h ρ = bnd (f ρ) fun s => bnd (l ρ) fun lo => bnd (h ρ) fun hi => pur (sliceS lo hi s) := rfl
@[simp] theorem ev_noPart : fNoPart ρ = some (.val none) := rfl
@[simp] theorem ev_part : fPart f ρ = bnd (f ρ) fun s => match s with | .fz (.int i) => some (.val (some i)) | _ => none := rfl
@[simp] theorem ev_inD {neg : Bool} : fInD neg f g ρ = bnd (f ρ) fun x => bnd (g ρ) fun y => pur (inG neg x y) := rfl
@[simp] theorem ev_bl : fBl t ρ = bnd (t ρ) fun b => some (.val (.fz (.bl b))) := rfl
@[simp] theorem ev_chain {o o' : Sl → Sl → Option Sl} {h : Env → Option (R Sl)} : fChain o o' f g h ρ = bnd (f ρ) fun x => bnd (g ρ) fun y => match o x y with
  | some (.fz (.bl true)) => bnd (h ρ) fun z => pur (o' y z)
  | some (.fz (.bl false)) => some (.val (.fz (.bl false)))
  | _ => none := rfl
@[simp] theorem ev_lc {it : Env → Option (R (List D))} {vs : List Nat} {gd : D → Env → Option Env} : fLc it vs gd t f ρ = bnd (it ρ) fun ds => if ds.length ≤ 100000 then (lcGo (wipeD ρ vs) gd t f ds).map fun out => .val (.oL out) else none := rfl
@[simp] theorem ev_yes : fYes ρ = some (.val true) := rfl
@[simp] theorem ev_itL : fItL f ρ = bnd (frD (f ρ)) fun d => match d with | .lst ds => some (.val ds) | .scr ds => some (.val ds) | _ => none := rfl
@[simp] theorem ev_itB : fItB f ρ = bnd (f ρ) fun s => pur (lstZ s) := rfl
@[simp] theorem ev_itEnum : fItEnum f ρ = bnd (frD (f ρ)) fun d => match d with | .lst ds => some (.val (enumD ds)) | _ => none := rfl
@[simp] theorem ev_rng {g : List Sl → Option (List D)} {h : Env → Option (R (List Sl))} : fRng g h ρ = bnd (h ρ) fun ss => pur (g ss) := rfl
@[simp] theorem ev_listRange : fListRange f ρ = bnd (f ρ) fun s => match s with | .fz (.int n) => if n ≤ 1000000 ∧ -1000000 ≤ n then some (.val (.oL (rangeD 0 n.toNat))) else none | _ => none := rfl
@[simp] theorem ev_index : fIndex f g ρ = bnd (f ρ) fun x => match lstZ x with | some ds => bnd (g ρ) fun y => pur (indexS ds y) | none => none := rfl
@[simp] theorem ev_dnewK : fDnewK ρ = some (.val (.oK [])) := rfl
@[simp] theorem ev_dnewT : fDnewT ρ = some (.val (.oT [])) := rfl
@[simp] theorem ev_gdN : gdN i d ρ = some (ρ.set i (.fz d)) := rfl
@[simp] theorem ev_alt {β : Type} {f g : Env → Option β} : alt f g ρ = match f ρ with | some r => some r | none => g ρ := rfl
-- statements
@[simp] theorem ev_next : fNext ρ = some (.nx ρ) := rfl
@[simp] theorem ev_seq : fSeq p q ρ = match p ρ with | some (.nx ρ') => q ρ' | r => r := rfl
@[simp] theorem ev_asg : fAsg i f ρ = bndS (f ρ) fun s => some (.nx (ρ.set i s)) := rfl
@[simp] theorem ev_asgZ : fAsgZ i f ρ = bndS (frD (f ρ)) fun d => some (.nx (ρ.set i (.fz d))) := rfl
@[simp] theorem ev_asgG {gd : D → Env → Option Env} : fAsgG gd f ρ = bndS (frD (f ρ)) fun d => (gd d ρ).map .nx := rfl
@[simp] theorem ev_par {h : Env → Option (R (List D))} : fPar i j h ρ = bndS (h ρ) fun ds => match ds with | [a, b] => some (.nx ((ρ.set i (.fz a)).set j (.fz b))) | _ => none := rfl
@[simp] theorem ev_aug {o : Int → Int → Int} : fAug i o f ρ = match ρ[i]? with
  | some (.fz (.int a)) => bndS (frD (f ρ)) fun d => match d with | .int b => some (.nx (ρ.set i (.fz (.int (o a b))))) | _ => none
  | _ => none := rfl
@[simp] theorem ev_ifS : fIfS t p q ρ = bndS (t ρ) fun b => if b = true then p ρ else q ρ := rfl
@[simp] theorem ev_ret : fRet f ρ = bndS (f ρ) fun s => some (.rt s) := rfl
@[simp] theorem ev_retV : fRetV i ρ = match ρ[i]? with | some .un => none | some s => some (.rt s) | none => none := rfl
@[simp] theorem ev_retN : fRetN ρ = some (.rt (.fz .non)) := rfl
@[simp] theorem ev_raise {C : Addr} : fRaise C ρ = some (.ex C none) := rfl
@[simp] theorem ev_drop : fDrop f ρ = bndS (f ρ) fun _ => some (.nx ρ) := rfl
@[simp] theorem ev_frz : fFrz i p ρ = (frzE i ρ).bind p := rfl
@[simp] theorem ev_frzE : frzE i ρ = match ρ[i]? with | some s => s.fr.map fun d => ρ.set i (.fz d) | none => none := rfl
@[simp] theorem ev_for {it : Env → Option (R (List D))} {gd : D → Env → Option Env} : fFor it gd p ρ = bndS (it ρ) fun ds => forGo gd p ds ρ := rfl
@[simp] theorem ev_app : fApp i f ρ = match ρ[i]? with
  | some (.oL ds) => bndS (frD (f ρ)) fun d => if ds.length ≤ 100000 then some (.nx (ρ.set i (.oL (ds ++ [d])))) else none
  | some (.oLL xss) => bndS (f ρ) fun s => match s with
    | .oL ds => if xss.length ≤ 100000 then some (.nx (ρ.set i (.oLL (xss ++ [ds])))) else none
    | _ => none
  | _ => none := rfl
@[simp] theorem ev_set : fSetI i f g ρ = match ρ[i]? with
  | some s => if isOwn s = true then bndS (frD (g ρ)) fun d => bndS (f ρ) fun k => match ρ[i]? with
    | some s => (setS s k d).map fun s' => .nx (ρ.set i s')
    | none => none else none
  | none => none := rfl
@[simp] theorem ev_popA : fPopA i j ρ = match ρ[j]? with
  | some (.oL ds) => (ds[ds.length - 1]?).map fun d => .nx ((ρ.set j (.oL ds.dropLast)).set i (.fz d))
  | _ => none := rfl
@[simp] theorem ev_wipe0 : wipeD ρ [] = ρ := rfl
@[simp] theorem ev_wipe1 {v : Nat} {vs : List Nat} : wipeD ρ (v :: vs) = (wipeD ρ vs).set v .un := rfl
-- operators
@[simp] theorem ev_addA : oAddA (.fz (.int n)) (.fz (.int k)) = some (.fz (.int (n + k))) := rfl
@[simp] theorem ev_sub : oSub (.fz (.int n)) (.fz (.int k)) = some (.fz (.int (n - k))) := rfl
@[simp] theorem ev_mul : oMul (.fz (.int n)) (.fz (.int k)) = if cMul n k then some (.fz (.int (n * k))) else none := rfl
@[simp] theorem ev_div : oDiv (.fz (.int n)) (.fz (.int k)) = if cDiv n k then some (.fz (.int (n / k))) else none := rfl
@[simp] theorem ev_mod : oMod (.fz (.int n)) (.fz (.int k)) = if cMod n k then some (.fz (.int (n % k))) else none := rfl
@[simp] theorem ev_pow : oPow (.fz (.int n)) (.fz (.int k)) = if cPow n k then some (.fz (.int (n ^ k.toNat))) else none := rfl
@[simp] theorem ev_shl : oShl (.fz (.int n)) (.fz (.int k)) = if cPow n k then some (.fz (.int (n * 2 ^ k.toNat))) else none := rfl
@[simp] theorem ev_shr : oShr (.fz (.int n)) (.fz (.int k)) = if cShr n k then some (.fz (.int (n / 2 ^ k.toNat))) else none := rfl
@[simp] theorem ev_oAnd : oAnd (.fz (.int n)) (.fz (.int k)) = some (.fz (.int (Builtin.bitAnd n k))) := rfl
@[simp] theorem ev_oOr : oOr (.fz (.int n)) (.fz (.int k)) = some (.fz (.int (Builtin.bitOr n k))) := rfl
@[simp] theorem ev_oXor : oXor (.fz (.int n)) (.fz (.int k)) = some (.fz (.int (Builtin.bitXor n k))) := rfl
@[simp] theorem ev_lt : oLt (.fz (.int n)) (.fz (.int k)) = some (.fz (.bl (decide (n < k)))) := rfl
@[simp] theorem ev_le : oLe (.fz (.int n)) (.fz (.int k)) = some (.fz (.bl (decide (n ≤ k)))) := rfl
@[simp] theorem ev_gt : oGt (.fz (.int n)) (.fz (.int k)) = some (.fz (.bl (decide (k < n)))) := rfl
@[simp] theorem ev_ge : oGe (.fz (.int n)) (.fz (.int k)) = some (.fz (.bl (decide (k ≤ n)))) := rfl
@[simp] theorem ev_eqI : oEqA (.fz (.int n)) (.fz (.int k)) = some (.fz (.bl (decide (n = k)))) := rfl
@[simp] theorem ev_neI : oNeA (.fz (.int n)) (.fz (.int k)) = some (.fz (.bl (!decide (n = k)))) := rfl
@[simp] theorem ev_eqB {a b : Bool} : oEqA (.fz (.bl a)) (.fz (.bl b)) = some (.fz (.bl (decide (a = b)))) := rfl
@[simp] theorem ev_neB {a b : Bool} : oNeA (.fz (.bl a)) (.fz (.bl b)) = some (.fz (.bl (!decide (a = b)))) := rfl
@[simp] theorem ev_eqSt {a b : Str} : oEqA (.fz (.str a)) (.fz (.str b)) = some (.fz (.bl (decide (a = b)))) := rfl
@[simp] theorem ev_neSt {a b : Str} : oNeA (.fz (.str a)) (.fz (.str b)) = some (.fz (.bl (!decide (a = b)))) := rfl
@[simp] theorem ev_isNN : oIs (.fz .non) (.fz .non) = some (.fz (.bl true)) := rfl
@[simp] theorem ev_isIN : oIs (.fz (.int n)) (.fz .non) = some (.fz (.bl false)) := rfl
@[simp] theorem ev_isnNN : oIsNot (.fz .non) (.fz .non) = some (.fz (.bl false)) := rfl
@[simp] theorem ev_isnIN : oIsNot (.fz (.int n)) (.fz .non) = some (.fz (.bl true)) := rfl
theorem ixS_of {s : Sl} {n : Int} {ds : List D} (h : seqZ s = some ds) : ixS s (.fz (.int n)) = (atI ds n).map .fz := by
  cases s with
  | fz d => cases d <;> first | (cases h; done) | (cases h; show _ = (atI ds n).map Sl.fz; unfold ixS altG ixQ; simp only [seqZ, lstZ, Option.bind_some]; cases atI ds n <;> rfl)
  | oL xs => cases h; show _ = (atI ds n).map Sl.fz; unfold ixS altG ixQ; simp only [seqZ, lstZ, Option.bind_some]; cases atI ds n <;> rfl
  | _ => cases h
@[simp] theorem ev_ixL {ds : List D} : ixS (.fz (.lst ds)) (.fz (.int n)) = (atI ds n).map .fz := ixS_of rfl
@[simp] theorem ev_ixSc {ds : List D} : ixS (.fz (.scr ds)) (.fz (.int n)) = (atI ds n).map .fz := ixS_of rfl
@[simp] theorem ev_ixO {ds : List D} : ixS (.oL ds) (.fz (.int n)) = (atI ds n).map .fz := ixS_of rfl
@[simp] theorem ev_ixT {ds : List D} : ixS (.fz (.tup ds)) (.fz (.int n)) = (atI ds n).map .fz := ixS_of rfl
theorem atI_cast {α : Type} {xs : List α} {k : Nat} : atI xs (k : Int) = xs[k]? := by
  unfold atI ixN
  rw [if_pos (Int.natCast_nonneg k)]
  by_cases h : k < xs.length
  · rw [if_pos (by omega)]; simp
  · rw [if_neg (by omega)]; simp; omega
@[simp] theorem atI_0 {α : Type} {xs : List α} : atI xs 0 = xs[0]? := atI_cast (k := 0)
@[simp] theorem atI_1 {α : Type} {xs : List α} : atI xs 1 = xs[1]? := atI_cast (k := 1)
@[simp] theorem atI_2 {α : Type} {xs : List α} : atI xs 2 = xs[2]? := atI_cast (k := 2)
@[simp] theorem atI_3 {α : Type} {xs : List α} : atI xs 3 = xs[3]? := atI_cast (k := 3)
theorem atI_of {α : Type} {xs : List α} {n : Int} (k : Nat) (h : n = (k : Int)) : atI xs n = xs[k]? := by rw [h]; exact atI_cast
theorem atI_lastQ {α : Type} {xs : List α} : atI xs (-1) = xs.getLast? := by
  unfold atI ixN
  rw [if_neg (by omega), List.getLast?_eq_getElem?]
  cases xs with
  | nil => rfl
  | cons a r =>
    rw [if_pos (by simp; omega)]
    show (a :: r)[((-1 : Int) + ((a :: r).length : Nat)).toNat]? = _
    have : ((-1 : Int) + ((a :: r).length : Nat)).toNat = (a :: r).length - 1 := by simp; omega
    rw [this]
@[simp] theorem ev_gLenL {ds : List D} : gLen [.fz (.lst ds)] = some (.fz (.int (ds.length : Nat))) := rfl
@[simp] theorem ev_gLenSc {ds : List D} : gLen [.fz (.scr ds)] = some (.fz (.int (ds.length : Nat))) := rfl
@[simp] theorem ev_gLenO {ds : List D} : gLen [.oL ds] = some (.fz (.int (ds.length : Nat))) := rfl
@[simp] theorem ev_gLenT {ds : List D} : gLen [.fz (.tup ds)] = some (.fz (.int (ds.length : Nat))) := rfl
@[simp] theorem ev_gAbs : gAbs [.fz (.int n)] = some (.fz (.int (if n < 0 then -n else n))) := rfl
@[simp] theorem ev_gMin2 : gMin2 [.fz (.int n), .fz (.int k)] = some (.fz (.int (if k < n then k else n))) := rfl
@[simp] theorem ev_gMax2 : gMax2 [.fz (.int n), .fz (.int k)] = some (.fz (.int (if k > n then k else n))) := rfl
@[simp] theorem ev_gList {s : Sl} : gList [s] = (seqZ s).map .oL := rfl
@[simp] theorem ev_seqZ_l {ds : List D} : seqZ (.fz (.lst ds)) = some ds := rfl
@[simp] theorem ev_seqZ_s {ds : List D} : seqZ (.fz (.scr ds)) = some ds := rfl
@[simp] theorem ev_seqZ_t {ds : List D} : seqZ (.fz (.tup ds)) = some ds := rfl
@[simp] theorem ev_seqZ_o {ds : List D} : seqZ (.oL ds) = some ds := rfl
@[simp] theorem ev_lstZ_l {ds : List D} : lstZ (.fz (.lst ds)) = some ds := rfl
@[simp] theorem ev_lstZ_s {ds : List D} : lstZ (.fz (.scr ds)) = some ds := rfl
@[simp] theorem ev_lstZ_o {ds : List D} : lstZ (.oL ds) = some ds := rfl
theorem gInts_of {s : Sl} {ns : List Int} {f : List Int → Option Int} (h : lstZ s = some (ns.map D.int)) : gInts f [s] = (f ns).map fun n => .fz (.int n) := by
  show ((lstZ s).bind asInts).bind _ = _
  rw [h, Option.bind_some, asInts_map, Option.bind_some]
theorem gBls_of {s : Sl} {ns : List Bool} {f : List Bool → Bool} (h : lstZ s = some (ns.map D.bl)) : gBls f [s] = some (.fz (.bl (f ns))) := by
  show ((lstZ s).bind asBls).map _ = _
  rw [h, Option.bind_some, asBls_map]; rfl
theorem gSum_of {s : Sl} {ns : List Int} (h : lstZ s = some (ns.map D.int)) : gSum [s] = some (.fz (.int ns.sum)) := gInts_of h
theorem gAny_of {s : Sl} {ns : List Bool} (h : lstZ s = some (ns.map D.bl)) : gAny [s] = some (.fz (.bl (ns.any id))) := gBls_of h
theorem gAll_of {s : Sl} {ns : List Bool} (h : lstZ s = some (ns.map D.bl)) : gAll [s] = some (.fz (.bl (ns.all id))) := gBls_of h
theorem gMin_of {s : Sl} {ns : List Int} {m : Int} (h : lstZ s = some (ns.map D.int)) (hm : minI ns = some m) : gMin [s] = some (.fz (.int m)) := by
  show gInts minI [s] = _
  rw [gInts_of h, hm]; rfl
theorem gMax_of {s : Sl} {ns : List Int} {m : Int} (h : lstZ s = some (ns.map D.int)) (hm : maxI ns = some m) : gMax [s] = some (.fz (.int m)) := by
  show gInts maxI [s] = _
  rw [gInts_of h, hm]; rfl
end

/-! ### conditions -/
theorem cMul_l {i j : Int} (h : i.natAbs < 2 ^ 64) : cMul i j := .inl (.inl (by omega))
theorem cMul_r {i j : Int} (h : j.natAbs < 2 ^ 64) : cMul i j := .inl (.inr (by omega))
theorem cDiv_of {i j : Int} (h : 0 < j) (h2 : j < 2 ^ 1000) : cDiv i j := ⟨h, by
  have h3 : j.natAbs < 2 ^ 1000 := by omega
  have : j.natAbs ≠ 0 := by omega
  exact Nat.lt_of_lt_of_le ((Nat.log2_lt this).mpr h3) (by decide)⟩
theorem cMod_of {i j : Int} (h : 0 < j) : cMod i j := h
theorem cShr_of {i j : Int} (h : 0 ≤ j) : cShr i j := h
theorem cPow_of {i j : Int} (h : 0 ≤ j) (h1 : j ≤ 1000000) (h2 : i.natAbs < 2 ^ 64) : cPow i j := ⟨h, h1, h2⟩
theorem cRng_of {i : Int} (h : -4611686018427387904 ≤ i) (h1 : i < 4611686018427387904) : cRng i := ⟨by simpa using h, by simpa using h1⟩

/-! ### comprehensions -/
section
variable {α : Type} {ρ : Env} {gd : D → Env → Option Env} {t : Env → Option (R Bool)} {e : Env → Option (R Sl)}
theorem lcGo_filter (enc g : α → D) (p : α → Bool) : ∀ (xs : List α), (∀ x ∈ xs, ∃ ρ', gd (enc x) ρ = some ρ' ∧ t ρ' = some (.val (p x)) ∧ (p x = true → frD (e ρ') = some (.val (g x)))) → lcGo ρ gd t e (xs.map enc) = some ((xs.filter p).map g)
  | [], _ => rfl
  | x :: xs, h => by
    obtain ⟨ρ', h1, h2, h3⟩ := h x (List.mem_cons_self ..)
    have ih := lcGo_filter enc g p xs fun y hy => h y (List.mem_cons_of_mem _ hy)
    rw [List.map_cons]
    unfold lcGo
    rw [h1, Option.bind_some, h2]
    cases q : p x with
    | true => simp only [h3 q, ih, List.filter_cons, q, if_true]; rfl
    | false => simp only [ih, List.filter_cons, q]; rfl
theorem lcGo_map (enc g : α → D) (xs : List α) (h : ∀ x ∈ xs, ∃ ρ', gd (enc x) ρ = some ρ' ∧ t ρ' = some (.val true) ∧ frD (e ρ') = some (.val (g x))) : lcGo ρ gd t e (xs.map enc) = some (xs.map g) := by
  have := lcGo_filter (ρ := ρ) (gd := gd) (t := t) (e := e) enc g (fun _ => true) xs fun x hx => by
    obtain ⟨ρ', a, b, c⟩ := h x hx
    exact ⟨ρ', a, b, fun _ => c⟩
  rw [this, List.filter_eq_self.mpr (fun _ _ => rfl)]
theorem lcGo_range (g : Nat → D) {lo : Int} {n : Nat} (h : ∀ k, k < n → ∃ ρ', gd (.int (lo + (k : Nat))) ρ = some ρ' ∧ t ρ' = some (.val true) ∧ frD (e ρ') = some (.val (g k))) : lcGo ρ gd t e (rangeD lo n) = some ((List.range n).map g) :=
  lcGo_map (fun k : Nat => .int (lo + (k : Nat))) g (List.range n) fun k hk => h k (List.mem_range.mp hk)
end

/-! ### for -/
section
variable {gd : D → Env → Option Env} {b : Env → Option Out}
/-- turn by turn; a turn goes on, or ends the loop by o -/
theorem forGo_until (I : Nat → Env → Prop) (P : Out → Prop) : ∀ (ds : List D) (n : Nat) (ρ : Env), I n ρ → (∀ i d ρ, ds[i]? = some d → I (n + i) ρ → ∃ ρ1, gd d ρ = some ρ1 ∧
      ((∃ ρ2, (b ρ1 = some (.nx ρ2) ∨ b ρ1 = some (.ct ρ2)) ∧ I (n + i + 1) ρ2) ∨ (∃ ρ2, b ρ1 = some (.bk ρ2) ∧ P (.nx ρ2)) ∨ (∃ s, b ρ1 = some (.rt s) ∧ P (.rt s)) ∨ ∃ C fs, b ρ1 = some (.ex C fs) ∧ P (.ex C fs))) →
    ∃ o, forGo gd b ds ρ = some o ∧ (P o ∨ ∃ ρ', o = .nx ρ' ∧ I (n + ds.length) ρ')
  | [], n, ρ, h, _ => ⟨.nx ρ, rfl, .inr ⟨ρ, rfl, h⟩⟩
  | d :: ds, n, ρ, h, hs => by
    obtain ⟨ρ1, h1, h2⟩ := hs 0 d ρ rfl h
    unfold forGo
    rw [h1, Option.bind_some]
    have go : ∀ ρ2, I (n + 0 + 1) ρ2 → ∃ o, forGo gd b ds ρ2 = some o ∧ (P o ∨ ∃ ρ', o = .nx ρ' ∧ I (n + (d :: ds).length) ρ') := fun ρ2 h3 => by
      obtain ⟨o, a, c⟩ := forGo_until I P ds (n + 1) ρ2 h3 fun i d' ρ' hd hi => by
        have := hs (i + 1) d' ρ' (by simpa using hd) (by rw [show n + (i + 1) = n + 1 + i by omega]; exact hi)
        rw [show n + (i + 1) + 1 = n + 1 + i + 1 by omega] at this
        exact this
      refine ⟨o, a, ?_⟩
      rw [show n + (d :: ds).length = n + 1 + ds.length by simp; omega]
      exact c
    rcases h2 with ⟨ρ2, h2, h3⟩ | ⟨ρ2, h2, h3⟩ | ⟨s, h2, h3⟩ | ⟨C, fs, h2, h3⟩
    · rcases h2 with h2 | h2 <;> rw [h2] <;> exact go ρ2 h3
    · rw [h2]; exact ⟨_, rfl, .inl h3⟩
    · rw [h2]; exact ⟨_, rfl, .inl h3⟩
    · rw [h2]; exact ⟨_, rfl, .inl h3⟩
theorem forGo_inv (I : Nat → Env → Prop) (ds : List D) (ρ : Env) (h0 : I 0 ρ) (hs : ∀ i d ρ, ds[i]? = some d → I i ρ → ∃ ρ1 ρ2, gd d ρ = some ρ1 ∧ (b ρ1 = some (.nx ρ2) ∨ b ρ1 = some (.ct ρ2)) ∧ I (i + 1) ρ2) :
    ∃ ρ', forGo gd b ds ρ = some (.nx ρ') ∧ I ds.length ρ' := by
  obtain ⟨o, h1, h2⟩ := forGo_until (gd := gd) (b := b) I (fun _ => False) ds 0 ρ h0 fun i d ρ hd hi => by
    rw [Nat.zero_add] at hi
    obtain ⟨ρ1, ρ2, a, c, e⟩ := hs i d ρ hd hi
    exact ⟨ρ1, a, .inl ⟨ρ2, c, by rw [Nat.zero_add]; exact e⟩⟩
  rcases h2 with h2 | ⟨ρ', h2, h3⟩
  · exact h2.elim
  · exact ⟨ρ', by rw [h1, h2], by rw [Nat.zero_add] at h3; exact h3⟩
theorem forGo_range (I : Nat → Env → Prop) {lo : Int} {n : Nat} (ρ : Env) (h0 : I 0 ρ) (hs : ∀ k ρ, k < n → I k ρ → ∃ ρ1 ρ2, gd (.int (lo + (k : Nat))) ρ = some ρ1 ∧ (b ρ1 = some (.nx ρ2) ∨ b ρ1 = some (.ct ρ2)) ∧ I (k + 1) ρ2) :
    ∃ ρ', forGo gd b (rangeD lo n) ρ = some (.nx ρ') ∧ I n ρ' := by
  have := forGo_inv (gd := gd) (b := b) I (rangeD lo n) ρ h0 fun i d ρ hd hi => by
    have hl : i < n := by have := (List.getElem?_eq_some_iff.mp hd).1; rwa [rangeD_len] at this
    rw [rangeD_get hd]
    exact hs i ρ hl hi
  rwa [rangeD_len] at this
theorem forGo_list {α : Type} (enc : α → D) (xs : List α) (I : Nat → Env → Prop) (ρ : Env) (h0 : I 0 ρ) (hs : ∀ k x ρ, xs[k]? = some x → I k ρ → ∃ ρ1 ρ2, gd (enc x) ρ = some ρ1 ∧ (b ρ1 = some (.nx ρ2) ∨ b ρ1 = some (.ct ρ2)) ∧ I (k + 1) ρ2) :
    ∃ ρ', forGo gd b (xs.map enc) ρ = some (.nx ρ') ∧ I xs.length ρ' := by
  have := forGo_inv (gd := gd) (b := b) I (xs.map enc) ρ h0 fun i d ρ hd hi => by
    rw [List.getElem?_map] at hd
    cases q : xs[i]? with
    | none => rw [q] at hd; cases hd
    | some x => rw [q] at hd; cases hd; exact hs i x ρ q hi
  rwa [List.length_map] at this
end

/-! ### while -/
theorem while_inv {c : Env → Option (R Bool)} {b : Env → Option Out} (I : Env → Prop) (μ : Env → Nat) (P : Env → Prop) (hs : ∀ ρ, I ρ → ∃ k, c ρ = some (.val k) ∧ if k = true then ∃ ρ', (b ρ = some (.nx ρ') ∨ b ρ = some (.ct ρ')) ∧ I ρ' ∧ μ ρ' < μ ρ else P ρ) :
    ∀ ρ, I ρ → ∃ ρ', fWhile c b ρ = some (.nx ρ') ∧ P ρ' := by
  have key : ∀ (m : Nat) (ρ : Env), I ρ → μ ρ ≤ m → ∃ ρ', wIter c b (m + 1) ρ = some (.nx ρ') ∧ P ρ' := by
    intro m
    induction m with
    | zero =>
      intro ρ hI hm
      obtain ⟨k, h1, h2⟩ := hs ρ hI
      unfold wIter
      rw [h1, bndS_val]
      cases k with
      | true => rw [if_pos rfl] at h2; obtain ⟨ρ', _, _, h3⟩ := h2; omega
      | false => rw [if_neg Bool.false_ne_true] at h2 ⊢; exact ⟨ρ, rfl, h2⟩
    | succ m ih =>
      intro ρ hI hm
      obtain ⟨k, h1, h2⟩ := hs ρ hI
      unfold wIter
      rw [h1, bndS_val]
      cases k with
      | true =>
        rw [if_pos rfl] at h2 ⊢
        obtain ⟨ρ', h3, h4, h5⟩ := h2
        obtain ⟨ρ2, h6, h7⟩ := ih ρ' h4 (by omega)
        rcases h3 with h3 | h3 <;> rw [h3] <;> exact ⟨ρ2, h6, h7⟩
      | false => rw [if_neg Bool.false_ne_true] at h2 ⊢; exact ⟨ρ, rfl, h2⟩
  intro ρ hI
  obtain ⟨ρ', h1, h2⟩ := key (μ ρ) ρ hI (Nat.le_refl _)
  exact ⟨ρ', fWhile_eq h1, h2⟩
/-- a def's function, by its body -/
theorem gDef_rt {m n : Nat} {f : Env → Option Out} {ds : List D} {s : Sl} (hl : ds.length = m) (h : f (ds.map .fz ++ List.replicate (n - m) .un) = some (.rt s)) : gDef m n f ds = some (.val s) := by
  unfold gDef fDef
  rw [if_pos hl, hl, h]
theorem gDef_nx {m n : Nat} {f : Env → Option Out} {ds : List D} {ρ : Env} (hl : ds.length = m) (h : f (ds.map .fz ++ List.replicate (n - m) .un) = some (.nx ρ)) : gDef m n f ds = some (.val (.fz .non)) := by
  unfold gDef fDef
  rw [if_pos hl, hl, h]
theorem gDef_ex {m n : Nat} {f : Env → Option Out} {ds : List D} {C : Addr} {fs} (hl : ds.length = m) (h : f (ds.map .fz ++ List.replicate (n - m) .un) = some (.ex C fs)) : gDef m n f ds = some (.ex C fs) := by
  unfold gDef fDef
  rw [if_pos hl, hl, h]
theorem gDefM_rt {m n : Nat} {f : Env → Option Out} {ds : List Sl} {s : Sl} (hl : ds.length = m) (h : f (ds ++ List.replicate (n - m) .un) = some (.rt s)) : gDefM m n f ds = some (.val s) := by
  unfold gDefM fDefM
  rw [if_pos hl, hl, h]
end FN

set_option Elab.async false
set_option linter.all false
set_option maxRecDepth 100000
set_option maxHeartbeats 4000000
/-! The defs of the linked text as plain functions (written by gen.py). -/
namespace FN
open PySem PySem.Spec PyProof.Rows L2
def topS (i : Nat) : Stmt := PySem.Challenge.pw_spinfloor_k52_whole_near_a_line.main.body.getD i (.Pass ⟨0, 0, 0, 0⟩)
abbrev s_way_to : Stmt := topS 5
theorem sc_way_to : FnScope ["row", "table", "goal", "modulus", "low", "many", "mid", "cost"] ["row", "table", "goal", "modulus"] (defScope s_way_to) := ⟨rfl, rfl, rfl, by decide +kernel, rfl, by decide +kernel, by decide +kernel⟩
abbrev s_row_joined : Stmt := topS 6
theorem sc_row_joined : FnScope ["row", "table", "modulus", "goal"] ["row", "table", "modulus"] (defScope s_row_joined) := ⟨rfl, rfl, rfl, by decide +kernel, rfl, by decide +kernel, by decide +kernel⟩
abbrev s_tables_joined : Stmt := topS 7
theorem sc_tables_joined : FnScope ["one", "two", "modulus", "row"] ["one", "two", "modulus"] (defScope s_tables_joined) := ⟨rfl, rfl, rfl, by decide +kernel, rfl, by decide +kernel, by decide +kernel⟩
abbrev s_by_modulus : Stmt := topS 8
theorem sc_by_modulus : FnScope ["row", "modulus", "entry"] ["row", "modulus"] (defScope s_by_modulus) := ⟨rfl, rfl, rfl, by decide +kernel, rfl, by decide +kernel, by decide +kernel⟩
abbrev s_table_power : Stmt := topS 9
theorem sc_table_power : FnScope ["table", "times", "modulus", "square", "found", "row"] ["table", "times", "modulus"] (defScope s_table_power) := ⟨rfl, rfl, rfl, by decide +kernel, rfl, by decide +kernel, by decide +kernel⟩
abbrev s_Tie_init : Stmt := inClass (topS 11) 0
theorem sc_Tie_init : FnScope ["self", "one", "two", "strength"] ["self", "one", "two", "strength"] (defScope s_Tie_init) := ⟨rfl, rfl, rfl, by decide +kernel, rfl, by decide +kernel, by decide +kernel⟩
abbrev s_Tie_unpleased : Stmt := inClass (topS 11) 3
theorem sc_Tie_unpleased : FnScope ["self", "laying", "down"] ["self", "laying"] (defScope s_Tie_unpleased) := ⟨rfl, rfl, rfl, by decide +kernel, rfl, by decide +kernel, by decide +kernel⟩
abbrev s_Tie_price : Stmt := inClass (topS 11) 4
theorem sc_Tie_price : FnScope ["self", "laying"] ["self", "laying"] (defScope s_Tie_price) := ⟨rfl, rfl, rfl, by decide +kernel, rfl, by decide +kernel, by decide +kernel⟩
abbrev s_Pull_wish : Stmt := inClass (topS 12) 0
theorem sc_Pull_wish : FnScope ["self"] ["self"] (defScope s_Pull_wish) := ⟨rfl, rfl, rfl, by decide +kernel, rfl, by decide +kernel, by decide +kernel⟩
abbrev s_Push_wish : Stmt := inClass (topS 13) 0
theorem sc_Push_wish : FnScope ["self"] ["self"] (defScope s_Push_wish) := ⟨rfl, rfl, rfl, by decide +kernel, rfl, by decide +kernel, by decide +kernel⟩
abbrev s_tie_of : Stmt := topS 14
theorem sc_tie_of : FnScope ["one", "two", "signed"] ["one", "two", "signed"] (defScope s_tie_of) := ⟨rfl, rfl, rfl, by decide +kernel, rfl, by decide +kernel, by decide +kernel⟩
abbrev s_rows_of : Stmt := topS 18
theorem sc_rows_of : FnScope ["pattern", "rows", "across", "along"] ["pattern"] (defScope s_rows_of) := ⟨rfl, rfl, rfl, by decide +kernel, rfl, by decide +kernel, by decide +kernel⟩
abbrev s_across_price : Stmt := topS 19
theorem sc_across_price : FnScope ["column", "signs", "across", "r"] ["column", "signs"] (defScope s_across_price) := ⟨rfl, rfl, rfl, by decide +kernel, rfl, by decide +kernel, by decide +kernel⟩
abbrev s_along_price : Stmt := topS 20
theorem sc_along_price : FnScope ["column", "signs", "after", "along", "rows", "laying", "r"] ["column", "signs", "after"] (defScope s_along_price) := ⟨rfl, rfl, rfl, by decide +kernel, rfl, by decide +kernel, by decide +kernel⟩
abbrev s_column_table : Stmt := topS 21
theorem sc_column_table : FnScope ["column", "size", "found", "signs", "own", "after"] ["column"] (defScope s_column_table) := ⟨rfl, rfl, rfl, by decide +kernel, rfl, by decide +kernel, by decide +kernel⟩
abbrev s_step_table : Stmt := topS 22
theorem sc_step_table : FnScope ["pattern", "found", "column"] ["pattern"] (defScope s_step_table) := ⟨rfl, rfl, rfl, by decide +kernel, rfl, by decide +kernel, by decide +kernel⟩
abbrev s_strip_least : Stmt := topS 23
theorem sc_strip_least : FnScope ["pattern", "columns", "modulus", "rows", "row", "column", "ends", "low", "many", "repeats", "rest", "signs"] ["pattern", "columns", "modulus"] (defScope s_strip_least) := ⟨rfl, rfl, rfl, by decide +kernel, rfl, by decide +kernel, by decide +kernel⟩
abbrev s_lows_of : Stmt := topS 25
theorem sc_lows_of : FnScope ["row", "entry"] ["row"] (defScope s_lows_of) := ⟨rfl, rfl, rfl, by decide +kernel, rfl, by decide +kernel, by decide +kernel⟩
abbrev s_lowest_into : Stmt := topS 26
theorem sc_lowest_into : FnScope ["heights", "costs", "goal", "start"] ["heights", "costs", "goal"] (defScope s_lowest_into) := ⟨rfl, rfl, rfl, by decide +kernel, rfl, by decide +kernel, by decide +kernel⟩
abbrev s_walks : Stmt := topS 27
theorem sc_walks : FnScope ["costs", "size", "found", "step", "place", "goal"] ["costs"] (defScope s_walks) := ⟨rfl, rfl, rfl, by decide +kernel, rfl, by decide +kernel, by decide +kernel⟩
abbrev s_steepest : Stmt := topS 28
theorem sc_steepest : FnScope ["found", "place", "last", "best", "step", "rise"] ["found", "place"] (defScope s_steepest) := ⟨rfl, rfl, rfl, by decide +kernel, rfl, by decide +kernel, by decide +kernel⟩
abbrev s_lowest_average : Stmt := topS 29
theorem sc_lowest_average : FnScope ["costs", "found", "best", "place", "here", "one", "two"] ["costs"] (defScope s_lowest_average) := ⟨rfl, rfl, rfl, by decide +kernel, rfl, by decide +kernel, by decide +kernel⟩
abbrev s_slopes_of : Stmt := topS 30
theorem sc_slopes_of : FnScope ["costs", "top", "bottom", "size", "over", "heights", "step", "row", "place", "cost", "goal"] ["costs", "top", "bottom"] (defScope s_slopes_of) := ⟨rfl, rfl, rfl, by decide +kernel, rfl, by decide +kernel, by decide +kernel⟩
abbrev s_loop_of : Stmt := topS 31
theorem sc_loop_of : FnScope ["tight", "alive", "many", "walk", "place", "goal"] ["tight"] (defScope s_loop_of) := ⟨rfl, rfl, rfl, by decide +kernel, rfl, by decide +kernel, by decide +kernel⟩
abbrev s_long_run : Stmt := topS 32
theorem sc_long_run : FnScope ["pattern", "costs", "slopes", "tight", "start", "top", "bottom", "row", "goal"] ["pattern"] (defScope s_long_run) := ⟨rfl, rfl, rfl, by decide +kernel, rfl, by decide +kernel, by decide +kernel⟩
abbrev s__law_cell : Stmt := topS 34
theorem sc__law_cell : FnScope ["script", "k"] ["script", "k"] (defScope s__law_cell) := ⟨rfl, rfl, rfl, by decide +kernel, rfl, by decide +kernel, by decide +kernel⟩
abbrev s__law_whole : Stmt := topS 35
theorem sc__law_whole : FnScope ["found"] ["found"] (defScope s__law_whole) := ⟨rfl, rfl, rfl, by decide +kernel, rfl, by decide +kernel, by decide +kernel⟩
abbrev s__law_pair : Stmt := topS 36
theorem sc__law_pair : FnScope ["found"] ["found"] (defScope s__law_pair) := ⟨rfl, rfl, rfl, by decide +kernel, rfl, by decide +kernel, by decide +kernel⟩
abbrev s__law_strength : Stmt := topS 37
theorem sc__law_strength : FnScope ["cell", "mode"] ["cell", "mode"] (defScope s__law_strength) := ⟨rfl, rfl, rfl, by decide +kernel, rfl, by decide +kernel, by decide +kernel⟩
abbrev s__law_pattern : Stmt := topS 38
theorem sc__law_pattern : FnScope ["script", "rows", "period", "mode", "count", "told", "k", "pattern", "cell", "j"] ["script", "rows", "period", "mode"] (defScope s__law_pattern) := ⟨rfl, rfl, rfl, by decide +kernel, rfl, by decide +kernel, by decide +kernel⟩
abbrev s__law_copy : Stmt := topS 39
theorem sc__law_copy : FnScope ["pattern", "column"] ["pattern"] (defScope s__law_copy) := ⟨rfl, rfl, rfl, by decide +kernel, rfl, by decide +kernel, by decide +kernel⟩
abbrev s_law : Stmt := topS 40
theorem sc_law : FnScope ["script", "first", "rows", "period", "pattern", "repeats", "found", "apart", "over", "last", "more", "columns", "told", "gone", "strength", "part"] ["script"] (defScope s_law) := ⟨rfl, rfl, rfl, by decide +kernel, rfl, by decide +kernel, by decide +kernel⟩
/-- the addresses -/
structure Ad where
  a_way_to : Addr
  d_way_to : FuncData
  a_row_joined : Addr
  d_row_joined : FuncData
  a_tables_joined : Addr
  d_tables_joined : FuncData
  a_by_modulus : Addr
  d_by_modulus : FuncData
  a_table_power : Addr
  d_table_power : FuncData
  a_Tie_init : Addr
  d_Tie_init : FuncData
  a_Tie_unpleased : Addr
  d_Tie_unpleased : FuncData
  a_Tie_price : Addr
  d_Tie_price : FuncData
  a_Pull_wish : Addr
  d_Pull_wish : FuncData
  a_Push_wish : Addr
  d_Push_wish : FuncData
  a_tie_of : Addr
  d_tie_of : FuncData
  a_rows_of : Addr
  d_rows_of : FuncData
  a_across_price : Addr
  d_across_price : FuncData
  a_along_price : Addr
  d_along_price : FuncData
  a_column_table : Addr
  d_column_table : FuncData
  a_step_table : Addr
  d_step_table : FuncData
  a_strip_least : Addr
  d_strip_least : FuncData
  a_lows_of : Addr
  d_lows_of : FuncData
  a_lowest_into : Addr
  d_lowest_into : FuncData
  a_walks : Addr
  d_walks : FuncData
  a_steepest : Addr
  d_steepest : FuncData
  a_lowest_average : Addr
  d_lowest_average : FuncData
  a_slopes_of : Addr
  d_slopes_of : FuncData
  a_loop_of : Addr
  d_loop_of : FuncData
  a_long_run : Addr
  d_long_run : FuncData
  a__law_cell : Addr
  d__law_cell : FuncData
  a__law_whole : Addr
  d__law_whole : FuncData
  a__law_pair : Addr
  d__law_pair : FuncData
  a__law_strength : Addr
  d__law_strength : FuncData
  a__law_pattern : Addr
  d__law_pattern : FuncData
  a__law_copy : Addr
  d__law_copy : FuncData
  a_law : Addr
  d_law : FuncData
  c_FloorError : Addr
  c_BadTie : Addr
  c_BadStrip : Addr
  c_Tie : Addr
  c_Pull : Addr
  c_Push : Addr
def ok_one (A : Ad) (C : Addr) : Bool := C == A.c_Pull || C == A.c_Push
def ok_strength (A : Ad) (C : Addr) : Bool := C == A.c_Pull || C == A.c_Push
def ok_two (A : Ad) (C : Addr) : Bool := C == A.c_Pull || C == A.c_Push
/-- what the top has left -/
structure Txt (K : PySem.W.Frag) (mg : Str → Option Value) (A : Ad) : Prop where
  F_way_to : Fun K "way_to" "way_to" s_way_to A.a_way_to A.d_way_to
  m_way_to : mg "way_to" = some (.ref A.a_way_to)
  F_row_joined : Fun K "row_joined" "row_joined" s_row_joined A.a_row_joined A.d_row_joined
  m_row_joined : mg "row_joined" = some (.ref A.a_row_joined)
  F_tables_joined : Fun K "tables_joined" "tables_joined" s_tables_joined A.a_tables_joined A.d_tables_joined
  m_tables_joined : mg "tables_joined" = some (.ref A.a_tables_joined)
  F_by_modulus : Fun K "by_modulus" "by_modulus" s_by_modulus A.a_by_modulus A.d_by_modulus
  m_by_modulus : mg "by_modulus" = some (.ref A.a_by_modulus)
  F_table_power : Fun K "table_power" "table_power" s_table_power A.a_table_power A.d_table_power
  m_table_power : mg "table_power" = some (.ref A.a_table_power)
  F_Tie_init : Fun K "__init__" "Tie.__init__" s_Tie_init A.a_Tie_init A.d_Tie_init
  F_Tie_unpleased : Fun K "unpleased" "Tie.unpleased" s_Tie_unpleased A.a_Tie_unpleased A.d_Tie_unpleased
  F_Tie_price : Fun K "price" "Tie.price" s_Tie_price A.a_Tie_price A.d_Tie_price
  F_Pull_wish : Fun K "wish" "Pull.wish" s_Pull_wish A.a_Pull_wish A.d_Pull_wish
  F_Push_wish : Fun K "wish" "Push.wish" s_Push_wish A.a_Push_wish A.d_Push_wish
  F_tie_of : Fun K "tie_of" "tie_of" s_tie_of A.a_tie_of A.d_tie_of
  m_tie_of : mg "tie_of" = some (.ref A.a_tie_of)
  F_rows_of : Fun K "rows_of" "rows_of" s_rows_of A.a_rows_of A.d_rows_of
  m_rows_of : mg "rows_of" = some (.ref A.a_rows_of)
  F_across_price : Fun K "across_price" "across_price" s_across_price A.a_across_price A.d_across_price
  m_across_price : mg "across_price" = some (.ref A.a_across_price)
  F_along_price : Fun K "along_price" "along_price" s_along_price A.a_along_price A.d_along_price
  m_along_price : mg "along_price" = some (.ref A.a_along_price)
  F_column_table : Fun K "column_table" "column_table" s_column_table A.a_column_table A.d_column_table
  m_column_table : mg "column_table" = some (.ref A.a_column_table)
  F_step_table : Fun K "step_table" "step_table" s_step_table A.a_step_table A.d_step_table
  m_step_table : mg "step_table" = some (.ref A.a_step_table)
  F_strip_least : Fun K "strip_least" "strip_least" s_strip_least A.a_strip_least A.d_strip_least
  m_strip_least : mg "strip_least" = some (.ref A.a_strip_least)
  F_lows_of : Fun K "lows_of" "lows_of" s_lows_of A.a_lows_of A.d_lows_of
  m_lows_of : mg "lows_of" = some (.ref A.a_lows_of)
  F_lowest_into : Fun K "lowest_into" "lowest_into" s_lowest_into A.a_lowest_into A.d_lowest_into
  m_lowest_into : mg "lowest_into" = some (.ref A.a_lowest_into)
  F_walks : Fun K "walks" "walks" s_walks A.a_walks A.d_walks
  m_walks : mg "walks" = some (.ref A.a_walks)
  F_steepest : Fun K "steepest" "steepest" s_steepest A.a_steepest A.d_steepest
  m_steepest : mg "steepest" = some (.ref A.a_steepest)
  F_lowest_average : Fun K "lowest_average" "lowest_average" s_lowest_average A.a_lowest_average A.d_lowest_average
  m_lowest_average : mg "lowest_average" = some (.ref A.a_lowest_average)
  F_slopes_of : Fun K "slopes_of" "slopes_of" s_slopes_of A.a_slopes_of A.d_slopes_of
  m_slopes_of : mg "slopes_of" = some (.ref A.a_slopes_of)
  F_loop_of : Fun K "loop_of" "loop_of" s_loop_of A.a_loop_of A.d_loop_of
  m_loop_of : mg "loop_of" = some (.ref A.a_loop_of)
  F_long_run : Fun K "long_run" "long_run" s_long_run A.a_long_run A.d_long_run
  m_long_run : mg "long_run" = some (.ref A.a_long_run)
  F__law_cell : Fun K "_law_cell" "_law_cell" s__law_cell A.a__law_cell A.d__law_cell
  m__law_cell : mg "_law_cell" = some (.ref A.a__law_cell)
  F__law_whole : Fun K "_law_whole" "_law_whole" s__law_whole A.a__law_whole A.d__law_whole
  m__law_whole : mg "_law_whole" = some (.ref A.a__law_whole)
  F__law_pair : Fun K "_law_pair" "_law_pair" s__law_pair A.a__law_pair A.d__law_pair
  m__law_pair : mg "_law_pair" = some (.ref A.a__law_pair)
  F__law_strength : Fun K "_law_strength" "_law_strength" s__law_strength A.a__law_strength A.d__law_strength
  m__law_strength : mg "_law_strength" = some (.ref A.a__law_strength)
  F__law_pattern : Fun K "_law_pattern" "_law_pattern" s__law_pattern A.a__law_pattern A.d__law_pattern
  m__law_pattern : mg "_law_pattern" = some (.ref A.a__law_pattern)
  F__law_copy : Fun K "_law_copy" "_law_copy" s__law_copy A.a__law_copy A.d__law_copy
  m__law_copy : mg "_law_copy" = some (.ref A.a__law_copy)
  F_law : Fun K "law" "law" s_law A.a_law A.d_law
  m_law : mg "law" = some (.ref A.a_law)
  b_abs : mg "abs" = none
  b_all : mg "all" = none
  b_any : mg "any" = none
  b_bool : mg "bool" = none
  b_divmod : mg "divmod" = none
  b_int : mg "int" = none
  b_isinstance : mg "isinstance" = none
  b_len : mg "len" = none
  b_list : mg "list" = none
  b_max : mg "max" = none
  b_min : mg "min" = none
  b_range : mg "range" = none
  b_sum : mg "sum" = none
  b_tuple : mg "tuple" = none
  g_MOST_COLUMNS : ∃ t, mg "MOST_COLUMNS" = some (.int 1000000000000000000 t)
  g_MOST_MODULUS : ∃ t, mg "MOST_MODULUS" = some (.int 1000000000 t)
  m_FloorError : mg "FloorError" = some (.ref A.c_FloorError)
  m_BadTie : mg "BadTie" = some (.ref A.c_BadTie)
  m_BadStrip : mg "BadStrip" = some (.ref A.c_BadStrip)
  m_Tie : mg "Tie" = some (.ref A.c_Tie)
  m_Pull : mg "Pull" = some (.ref A.c_Pull)
  m_Push : mg "Push" = some (.ref A.c_Push)
  cl_Pull : Cls K A.c_Pull
  mk_Pull : Mk K A.c_Pull A.a_Tie_init
  na_Pull_one : NoAttr K A.c_Pull "one"
  na_Pull_strength : NoAttr K A.c_Pull "strength"
  na_Pull_two : NoAttr K A.c_Pull "two"
  me_Pull_price : Meth K A.c_Pull "price" A.a_Tie_price
  me_Pull_unpleased : Meth K A.c_Pull "unpleased" A.a_Tie_unpleased
  me_Pull_wish : Meth K A.c_Pull "wish" A.a_Pull_wish
  cl_Push : Cls K A.c_Push
  mk_Push : Mk K A.c_Push A.a_Tie_init
  na_Push_one : NoAttr K A.c_Push "one"
  na_Push_strength : NoAttr K A.c_Push "strength"
  na_Push_two : NoAttr K A.c_Push "two"
  me_Push_price : Meth K A.c_Push "price" A.a_Tie_price
  me_Push_unpleased : Meth K A.c_Push "unpleased" A.a_Tie_unpleased
  me_Push_wish : Meth K A.c_Push "wish" A.a_Push_wish
  x_FloorError : PySem.W.excIn K A.c_FloorError [.type "ValueError", .type "Exception", .type "BaseException", .type "object"] "ValueError.__new__" = true
  k_FloorError : PySem.W.keepIn K (.ref A.c_FloorError) = true
  bs_FloorError : PySem.W.subIn K (.ref A.c_FloorError) (.type "BaseException") = some true
  ty_FloorError : PySem.W.typeIn K (.ref A.c_FloorError) = some (.type "type")
  x_BadTie : PySem.W.excIn K A.c_BadTie [.type "ValueError", .type "Exception", .type "BaseException", .type "object"] "ValueError.__new__" = true
  k_BadTie : PySem.W.keepIn K (.ref A.c_BadTie) = true
  bs_BadTie : PySem.W.subIn K (.ref A.c_BadTie) (.type "BaseException") = some true
  ty_BadTie : PySem.W.typeIn K (.ref A.c_BadTie) = some (.type "type")
  x_BadStrip : PySem.W.excIn K A.c_BadStrip [.type "ValueError", .type "Exception", .type "BaseException", .type "object"] "ValueError.__new__" = true
  k_BadStrip : PySem.W.keepIn K (.ref A.c_BadStrip) = true
  bs_BadStrip : PySem.W.subIn K (.ref A.c_BadStrip) (.type "BaseException") = some true
  ty_BadStrip : PySem.W.typeIn K (.ref A.c_BadStrip) = some (.type "type")
section
variable {P : Program} {w : World} {K : PySem.W.Frag} {mg : Str → Option Value} {base : Heap} {A : Ad}
theorem Txt.f_one (T : Txt K mg A) : ∀ C, ok_one A C = true → Cls K C ∧ NoAttr K C "one" := fun C h => by
  unfold ok_one at h
  simp only [Bool.or_eq_true, beq_iff_eq] at h
  rcases h with h | h
  · subst h; exact ⟨T.cl_Pull, T.na_Pull_one⟩
  · subst h; exact ⟨T.cl_Push, T.na_Push_one⟩
theorem Txt.f_strength (T : Txt K mg A) : ∀ C, ok_strength A C = true → Cls K C ∧ NoAttr K C "strength" := fun C h => by
  unfold ok_strength at h
  simp only [Bool.or_eq_true, beq_iff_eq] at h
  rcases h with h | h
  · subst h; exact ⟨T.cl_Pull, T.na_Pull_strength⟩
  · subst h; exact ⟨T.cl_Push, T.na_Push_strength⟩
theorem Txt.f_two (T : Txt K mg A) : ∀ C, ok_two A C = true → Cls K C ∧ NoAttr K C "two" := fun C h => by
  unfold ok_two at h
  simp only [Bool.or_eq_true, beq_iff_eq] at h
  rcases h with h | h
  · subst h; exact ⟨T.cl_Pull, T.na_Pull_two⟩
  · subst h; exact ⟨T.cl_Push, T.na_Push_two⟩
theorem bd_way_to (T : Txt K mg A) : Binds K A.d_way_to ["row", "table", "goal", "modulus"] [] := T.F_way_to.binds fun _ _ _ _ _ _ us hl => match us, hl with | [_, _, _, _], _ => rfl
theorem bd_row_joined (T : Txt K mg A) : Binds K A.d_row_joined ["row", "table", "modulus"] [] := T.F_row_joined.binds fun _ _ _ _ _ _ us hl => match us, hl with | [_, _, _], _ => rfl
theorem bd_tables_joined (T : Txt K mg A) : Binds K A.d_tables_joined ["one", "two", "modulus"] [] := T.F_tables_joined.binds fun _ _ _ _ _ _ us hl => match us, hl with | [_, _, _], _ => rfl
theorem bd_by_modulus (T : Txt K mg A) : Binds K A.d_by_modulus ["row", "modulus"] [] := T.F_by_modulus.binds fun _ _ _ _ _ _ us hl => match us, hl with | [_, _], _ => rfl
theorem bd_table_power (T : Txt K mg A) : Binds K A.d_table_power ["table", "times", "modulus"] [] := T.F_table_power.binds fun _ _ _ _ _ _ us hl => match us, hl with | [_, _, _], _ => rfl
theorem bd_Tie_init (T : Txt K mg A) : Binds K A.d_Tie_init ["self", "one", "two", "strength"] [] := T.F_Tie_init.binds fun _ _ _ _ _ _ us hl => match us, hl with | [_, _, _, _], _ => rfl
theorem bd_Tie_unpleased (T : Txt K mg A) : Binds K A.d_Tie_unpleased ["self", "laying"] [] := T.F_Tie_unpleased.binds fun _ _ _ _ _ _ us hl => match us, hl with | [_, _], _ => rfl
theorem bd_Tie_price (T : Txt K mg A) : Binds K A.d_Tie_price ["self", "laying"] [] := T.F_Tie_price.binds fun _ _ _ _ _ _ us hl => match us, hl with | [_, _], _ => rfl
theorem bd_Pull_wish (T : Txt K mg A) : Binds K A.d_Pull_wish ["self"] [] := T.F_Pull_wish.binds fun _ _ _ _ _ _ us hl => match us, hl with | [_], _ => rfl
theorem bd_Push_wish (T : Txt K mg A) : Binds K A.d_Push_wish ["self"] [] := T.F_Push_wish.binds fun _ _ _ _ _ _ us hl => match us, hl with | [_], _ => rfl
theorem bd_tie_of (T : Txt K mg A) : Binds K A.d_tie_of ["one", "two", "signed"] [] := T.F_tie_of.binds fun _ _ _ _ _ _ us hl => match us, hl with | [_, _, _], _ => rfl
theorem bd_rows_of (T : Txt K mg A) : Binds K A.d_rows_of ["pattern"] [] := T.F_rows_of.binds fun _ _ _ _ _ _ us hl => match us, hl with | [_], _ => rfl
theorem bd_across_price (T : Txt K mg A) : Binds K A.d_across_price ["column", "signs"] [] := T.F_across_price.binds fun _ _ _ _ _ _ us hl => match us, hl with | [_, _], _ => rfl
theorem bd_along_price (T : Txt K mg A) : Binds K A.d_along_price ["column", "signs", "after"] [] := T.F_along_price.binds fun _ _ _ _ _ _ us hl => match us, hl with | [_, _, _], _ => rfl
theorem bd_column_table (T : Txt K mg A) : Binds K A.d_column_table ["column"] [] := T.F_column_table.binds fun _ _ _ _ _ _ us hl => match us, hl with | [_], _ => rfl
theorem bd_step_table (T : Txt K mg A) : Binds K A.d_step_table ["pattern"] [] := T.F_step_table.binds fun _ _ _ _ _ _ us hl => match us, hl with | [_], _ => rfl
theorem bd_strip_least (T : Txt K mg A) : Binds K A.d_strip_least ["pattern", "columns", "modulus"] [] := T.F_strip_least.binds fun _ _ _ _ _ _ us hl => match us, hl with | [_, _, _], _ => rfl
theorem bd_lows_of (T : Txt K mg A) : Binds K A.d_lows_of ["row"] [] := T.F_lows_of.binds fun _ _ _ _ _ _ us hl => match us, hl with | [_], _ => rfl
theorem bd_lowest_into (T : Txt K mg A) : Binds K A.d_lowest_into ["heights", "costs", "goal"] [] := T.F_lowest_into.binds fun _ _ _ _ _ _ us hl => match us, hl with | [_, _, _], _ => rfl
theorem bd_walks (T : Txt K mg A) : Binds K A.d_walks ["costs"] [] := T.F_walks.binds fun _ _ _ _ _ _ us hl => match us, hl with | [_], _ => rfl
theorem bd_steepest (T : Txt K mg A) : Binds K A.d_steepest ["found", "place"] [] := T.F_steepest.binds fun _ _ _ _ _ _ us hl => match us, hl with | [_, _], _ => rfl
theorem bd_lowest_average (T : Txt K mg A) : Binds K A.d_lowest_average ["costs"] [] := T.F_lowest_average.binds fun _ _ _ _ _ _ us hl => match us, hl with | [_], _ => rfl
theorem bd_slopes_of (T : Txt K mg A) : Binds K A.d_slopes_of ["costs", "top", "bottom"] [] := T.F_slopes_of.binds fun _ _ _ _ _ _ us hl => match us, hl with | [_, _, _], _ => rfl
theorem bd_loop_of (T : Txt K mg A) : Binds K A.d_loop_of ["tight"] [] := T.F_loop_of.binds fun _ _ _ _ _ _ us hl => match us, hl with | [_], _ => rfl
theorem bd_long_run (T : Txt K mg A) : Binds K A.d_long_run ["pattern"] [] := T.F_long_run.binds fun _ _ _ _ _ _ us hl => match us, hl with | [_], _ => rfl
theorem bd__law_cell (T : Txt K mg A) : Binds K A.d__law_cell ["script", "k"] [] := T.F__law_cell.binds fun _ _ _ _ _ _ us hl => match us, hl with | [_, _], _ => rfl
theorem bd__law_whole (T : Txt K mg A) : Binds K A.d__law_whole ["found"] [] := T.F__law_whole.binds fun _ _ _ _ _ _ us hl => match us, hl with | [_], _ => rfl
theorem bd__law_pair (T : Txt K mg A) : Binds K A.d__law_pair ["found"] [] := T.F__law_pair.binds fun _ _ _ _ _ _ us hl => match us, hl with | [_], _ => rfl
theorem bd__law_strength (T : Txt K mg A) : Binds K A.d__law_strength ["cell", "mode"] [] := T.F__law_strength.binds fun _ _ _ _ _ _ us hl => match us, hl with | [_, _], _ => rfl
theorem bd__law_pattern (T : Txt K mg A) : Binds K A.d__law_pattern ["script", "rows", "period", "mode"] [] := T.F__law_pattern.binds fun _ _ _ _ _ _ us hl => match us, hl with | [_, _, _, _], _ => rfl
theorem bd__law_copy (T : Txt K mg A) : Binds K A.d__law_copy ["pattern"] [] := T.F__law_copy.binds fun _ _ _ _ _ _ us hl => match us, hl with | [_], _ => rfl
theorem bd_law (T : Txt K mg A) : Binds K A.d_law ["script"] [] := T.F_law.binds fun _ _ _ _ _ _ us hl => match us, hl with | [_], _ => rfl
/-! way_to -/
noncomputable def lb1_way_to (A : Ad) : Env → Option Out :=
 fSeq (fAsgZ 7 (fOp oAddA (fIx (fIx (fVarB 0) (fVarB 6)) (fC (.int 0))) (fIx (fIx (fIx (fVarB 1) (fVarB 6)) (fVarB 2)) (fC (.int 0)))))
 (fSeq (fIfS (fOr (fT (fOp oIs (fVarB 4) (fC .non))) (fT (fOp oLt (fVarB 7) (fVarB 4))))
 (fSeq (fAsgZ 4 (fVar 7))
 (fAsgZ 5 (fC (.int 0))))
 (fNext))
 (fIfS (fT (fOp oEqA (fVarB 7) (fVarB 4)))
 (fAug 5 (fun i j => i + j) (fOp oMul (fIx (fIx (fVarB 0) (fVarB 6)) (fC (.int 1))) (fIx (fIx (fIx (fVarB 1) (fVarB 6)) (fVarB 2)) (fC (.int 1)))))
 (fNext)))
noncomputable def b_way_to (A : Ad) : Env → Option Out :=
 fSeq (fAsgZ 4 (fC .non))
 (fSeq (fAsgZ 5 (fC (.int 0)))
 (fSeq (fFor (fRng rng1 (fConsB (fCB gLen (fConsB (fVarB 1) (fNil))) (fNil))) (gdN 6)
 (lb1_way_to A))
 (fRet (fTup (fCons (fVar 4) (fCons (fOp oMod (fVarB 5) (fVarB 3)) (fNil)))))))
noncomputable def g_way_to (A : Ad) : List D → Option (R Sl) := gDef 4 8 (b_way_to A)
theorem ok_way_to (T : Txt K mg A) : FnOk P w K mg base (L2.CX P w) 1 A.a_way_to A.d_way_to ["row", "table", "goal", "modulus"] (spF K (g_way_to A)) :=
 def_ok T.F_way_to sc_way_to fun cdv A0 outer s H E hr => by
  have nd := sc_way_to.nd
  exact (fss_cons (fs_asgZ (ps_set (i := 4) nd rfl (by first | exact Or.inl rfl | exact Or.inr rfl) (fe_non)))
      (fss_cons (fs_asgZ (ps_set (i := 5) nd rfl (by first | exact Or.inl rfl | exact Or.inr rfl) (fe_int)))
      (fss_cons (fs_for (passes_of rfl) rfl (fi_range1 T.b_range (fab_cons ((fe_cb ok_len T.b_len PySem.boot_len (fab_cons (fb_var 1) (fab_nil))).b) (fab_nil))) (pg_name (i := 6) nd rfl (by first | exact Or.inl rfl | exact Or.inr rfl)) gdN_ok
      (fss_cons (fs_asgZ (ps_set (i := 7) nd rfl (by first | exact Or.inl rfl | exact Or.inr rfl) (fe_bin ok_addA ((fe_ix (hu_of hr) ((fe_ix (hu_of hr) (fb_var 0) (fb_var 6)).b) ((fe_int).b)).b) ((fe_ix (hu_of hr) ((fe_ix (hu_of hr) ((fe_ix (hu_of hr) (fb_var 1) (fb_var 6)).b) (fb_var 2)).b) ((fe_int).b)).b))))
      (fss_cons (fs_if ((fw_or (ft_cmp ok_is (fb_var 4) ((fe_non).b)) (fw_or1 (ft_cmp ok_lt (fb_var 7) (fb_var 4)))).t)
      (fss_cons (fs_asgZ (ps_set (i := 4) nd rfl (by first | exact Or.inl rfl | exact Or.inr rfl) (fe_var 7)))
      (fss_one (fs_asgZ (ps_set (i := 5) nd rfl (by first | exact Or.inl rfl | exact Or.inr rfl) (fe_int)))))
      (fss_nil))
      (fss_one (fs_if (ft_cmp (ok_eqA hr.units) (fb_var 7) (fb_var 4))
      (fss_one (fs_aug (i := 5) (ps_aug (i := 5) nd rfl (by first | exact Or.inl rfl | exact Or.inr rfl) (fe_bin ok_mul ((fe_ix (hu_of hr) ((fe_ix (hu_of hr) (fb_var 0) (fb_var 6)).b) ((fe_int).b)).b) ((fe_ix (hu_of hr) ((fe_ix (hu_of hr) ((fe_ix (hu_of hr) (fb_var 1) (fb_var 6)).b) (fb_var 2)).b) ((fe_int).b)).b)) ip_add)))
      (fss_nil))))))
      (fss_one (fs_ret (fe_tup (fa_cons (fe_var 4) (fa_cons (fe_bin ok_mod (fb_var 5) (fb_var 3)) (fa_nil)))))))))
/-! row_joined -/
noncomputable def le1_row_joined (A : Ad) : Env → Option (R Sl) :=
 fCall (g_way_to A) (fCons (fVar 0) (fCons (fVar 1) (fCons (fVar 3) (fCons (fVar 2) (fNil)))))
noncomputable def b_row_joined (A : Ad) : Env → Option Out :=
 fRet (fLc (fRng rng1 (fConsB (fCB gLen (fConsB (fVarB 1) (fNil))) (fNil))) [3] (gdN 3) (fYes) (le1_row_joined A))
noncomputable def g_row_joined (A : Ad) : List D → Option (R Sl) := gDef 3 4 (b_row_joined A)
theorem ok_row_joined (T : Txt K mg A) : FnOk P w K mg base (L2.CX P w) 2 A.a_row_joined A.d_row_joined ["row", "table", "modulus"] (spF K (g_row_joined A)) :=
 def_ok T.F_row_joined sc_row_joined fun cdv A0 outer s H E hr => by
  have nd := sc_row_joined.nd
  exact (fss_one (fs_ret (fe_lc (own := [("goal", 3)]) rfl nd (fi_range1 T.b_range (fab_cons ((fe_cb ok_len T.b_len PySem.boot_len (fab_cons (fb_var 1) (fab_nil))).b) (fab_nil))) (blkOk_by (by kernel_rfl)) (fun _ _ _ _ _ => pg_name (i := 3) nd rfl (by first | exact Or.inl rfl | exact Or.inr rfl)) gdN_ok (fun _ _ _ _ _ => fts_nil) (fun _ _ _ _ _ => fe_call (ok_way_to T) (hr.mono (by decide)) T.m_way_to T.F_way_to.kp (bd_way_to T) passAt0 (fa_cons (fe_var 0) (fa_cons (fe_var 1) (fa_cons (fe_var 3) (fa_cons (fe_var 2) (fa_nil)))))))))
/-! tables_joined -/
noncomputable def le1_tables_joined (A : Ad) : Env → Option (R Sl) :=
 fCall (g_row_joined A) (fCons (fVar 3) (fCons (fVar 1) (fCons (fVar 2) (fNil))))
noncomputable def b_tables_joined (A : Ad) : Env → Option Out :=
 fRet (fLc (fItB (fVarB 0)) [3] (gdN 3) (fYes) (le1_tables_joined A))
noncomputable def g_tables_joined (A : Ad) : List D → Option (R Sl) := gDef 3 4 (b_tables_joined A)
theorem ok_tables_joined (T : Txt K mg A) : FnOk P w K mg base (L2.CX P w) 3 A.a_tables_joined A.d_tables_joined ["one", "two", "modulus"] (spF K (g_tables_joined A)) :=
 def_ok T.F_tables_joined sc_tables_joined fun cdv A0 outer s H E hr => by
  have nd := sc_tables_joined.nd
  exact (fss_one (fs_ret (fe_lc (own := [("row", 3)]) rfl nd (fi_listB (fb_var 0)) (blkOk_by (by kernel_rfl)) (fun _ _ _ _ _ => pg_name (i := 3) nd rfl (by first | exact Or.inl rfl | exact Or.inr rfl)) gdN_ok (fun _ _ _ _ _ => fts_nil) (fun _ _ _ _ _ => fe_call (ok_row_joined T) (hr.mono (by decide)) T.m_row_joined T.F_row_joined.kp (bd_row_joined T) passAt0 (fa_cons (fe_var 3) (fa_cons (fe_var 1) (fa_cons (fe_var 2) (fa_nil))))))))
/-! by_modulus -/
noncomputable def le1_by_modulus (A : Ad) : Env → Option (R Sl) :=
 fTup (fCons (fIx (fVarB 2) (fC (.int 0))) (fCons (fOp oMod (fIx (fVarB 2) (fC (.int 1))) (fVarB 1)) (fNil)))
noncomputable def b_by_modulus (A : Ad) : Env → Option Out :=
 fRet (fLc (fItB (fVarB 0)) [2] (gdN 2) (fYes) (le1_by_modulus A))
noncomputable def g_by_modulus (A : Ad) : List D → Option (R Sl) := gDef 2 3 (b_by_modulus A)
theorem ok_by_modulus (T : Txt K mg A) : FnOk P w K mg base (L2.CX P w) 1 A.a_by_modulus A.d_by_modulus ["row", "modulus"] (spF K (g_by_modulus A)) :=
 def_ok T.F_by_modulus sc_by_modulus fun cdv A0 outer s H E hr => by
  have nd := sc_by_modulus.nd
  exact (fss_one (fs_ret (fe_lc (own := [("entry", 2)]) rfl nd (fi_listB (fb_var 0)) (blkOk_by (by kernel_rfl)) (fun _ _ _ _ _ => pg_name (i := 2) nd rfl (by first | exact Or.inl rfl | exact Or.inr rfl)) gdN_ok (fun _ _ _ _ _ => fts_nil) (fun _ _ _ _ _ => fe_tup (fa_cons (fe_ix (hu_of hr) (fb_var 2) ((fe_int).b)) (fa_cons (fe_bin ok_mod ((fe_ix (hu_of hr) (fb_var 2) ((fe_int).b)).b) (fb_var 1)) (fa_nil)))))))
/-! table_power -/
noncomputable def le1_table_power (A : Ad) : Env → Option (R Sl) :=
 fCall (g_by_modulus A) (fCons (fVar 5) (fCons (fVar 2) (fNil)))
noncomputable def wt1_table_power (A : Ad) : Env → Option (R Bool) :=
 fT (fOp oGt (fVarB 1) (fC (.int 0)))
noncomputable def wb1_table_power (A : Ad) : Env → Option Out :=
 fSeq (fIfS (fT (fOp oEqA (fOp oAnd (fVarB 1) (fC (.int 1))) (fC (.int 1))))
 (fAsgZ 4 (fIf (fT (fOp oIs (fVarB 4) (fC .non))) (fVar 3) (fCall (g_tables_joined A) (fCons (fVar 4) (fCons (fVar 3) (fCons (fVar 2) (fNil)))))))
 (fNext))
 (fSeq (fAsgZ 1 (fOp oShr (fVarB 1) (fC (.int 1))))
 (fIfS (fT (fOp oGt (fVarB 1) (fC (.int 0))))
 (fAsgZ 3 (fCall (g_tables_joined A) (fCons (fVar 3) (fCons (fVar 3) (fCons (fVar 2) (fNil))))))
 (fNext)))
noncomputable def b_table_power (A : Ad) : Env → Option Out :=
 fSeq (fAsgZ 3 (fLc (fItB (fVarB 0)) [5] (gdN 5) (fYes) (le1_table_power A)))
 (fSeq (fAsgZ 4 (fC .non))
 (fSeq (fWhile (wt1_table_power A)
 (wb1_table_power A))
 (fRetV 4)))
noncomputable def g_table_power (A : Ad) : List D → Option (R Sl) := gDef 3 6 (b_table_power A)
theorem ok_table_power (T : Txt K mg A) : FnOk P w K mg base (L2.CX P w) 4 A.a_table_power A.d_table_power ["table", "times", "modulus"] (spF K (g_table_power A)) :=
 def_ok T.F_table_power sc_table_power fun cdv A0 outer s H E hr => by
  have nd := sc_table_power.nd
  exact (fss_cons (fs_asgZ (fs_setLc (i := 3) (own := [("row", 5)]) rfl nd rfl rfl (sw_true rfl rfl rfl (by decide +kernel)) (fi_listB (fb_var 0)) (blkOk_by (by kernel_rfl)) (fun _ _ _ _ _ => pg_name (i := 5) nd rfl (by first | exact Or.inl rfl | exact Or.inr rfl)) gdN_ok (fun _ _ _ _ _ => fts_nil) (fun _ _ _ _ _ => fe_call (ok_by_modulus T) (hr.mono (by decide)) T.m_by_modulus T.F_by_modulus.kp (bd_by_modulus T) passAt0 (fa_cons (fe_var 5) (fa_cons (fe_var 2) (fa_nil))))))
      (fss_cons (fs_asgZ (ps_set (i := 4) nd rfl (by first | exact Or.inl rfl | exact Or.inr rfl) (fe_non)))
      (fss_cons (fs_while (passes_of rfl) (ft_cmp ok_gt (fb_var 1) ((fe_int).b))
      (fss_cons (fs_if (ft_cmp (ok_eqA hr.units) ((fe_bin ok_and (fb_var 1) ((fe_int).b)).b) ((fe_int).b))
      (fss_one (fs_asgZ (ps_set (i := 4) nd rfl (by first | exact Or.inl rfl | exact Or.inr rfl) (fe_if (ft_cmp ok_is (fb_var 4) ((fe_non).b)) (fe_var 3) (fe_call (ok_tables_joined T) (hr.mono (by decide)) T.m_tables_joined T.F_tables_joined.kp (bd_tables_joined T) passDef (fa_cons (fe_var 4) (fa_cons (fe_var 3) (fa_cons (fe_var 2) (fa_nil)))))))))
      (fss_nil))
      (fss_cons (fs_asgZ (ps_set (i := 1) nd rfl (by first | exact Or.inl rfl | exact Or.inr rfl) (fe_bin ok_shr (fb_var 1) ((fe_int).b))))
      (fss_one (fs_if (ft_cmp ok_gt (fb_var 1) ((fe_int).b))
      (fss_one (fs_asgZ (ps_set (i := 3) nd rfl (by first | exact Or.inl rfl | exact Or.inr rfl) (fe_call (ok_tables_joined T) (hr.mono (by decide)) T.m_tables_joined T.F_tables_joined.kp (bd_tables_joined T) passDef (fa_cons (fe_var 3) (fa_cons (fe_var 3) (fa_cons (fe_var 2) (fa_nil))))))))
      (fss_nil))))))
      (fss_one (fs_retV (i := 4) (pv 4))))))
/-! Tie_init -/
noncomputable def b_Tie_init (A : Ad) : Env → Option Out :=
 fSeq (fIfS (fOr (fT (fOp oEqA (fVarB 1) (fVarB 2))) (fOr (fT (fOp oLt (fVarB 1) (fC (.int 0)))) (fOr (fT (fOp oLt (fVarB 2) (fC (.int 0)))) (fT (fOp oLt (fVarB 3) (fC (.int 0)))))))
 (fRaise A.c_BadTie)
 (fNext))
 (fSeq (fFldS 0 (ok_one A) "one" (fVar 1))
 (fSeq (fFldS 0 (ok_two A) "two" (fVar 2))
 (fFldS 0 (ok_strength A) "strength" (fVar 3))))
theorem fss_Tie_init (T : Txt K mg A) : ∀ (cdv : Value) (A0 : Around) (outer : List PySem.Env) (s : Shared) (H : Hp) (E : XK), Room 0 (A0.deeper (envOfC "Tie.__init__" (defScope s_Tie_init) s.heap.objs.size A.a_Tie_init cdv)) →
   FSs (cxOf (L2.CX P w) P w K mg base ["self", "one", "two", "strength"] "Tie.__init__" (defScope s_Tie_init) A.a_Tie_init cdv A0 outer s H E) (fun _ => E) (defBody s_Tie_init) (b_Tie_init A) := fun cdv A0 outer s H E hr => by
  have nd := sc_Tie_init.nd
  exact (fss_cons (fs_if ((fw_or (ft_cmp (ok_eqA hr.units) (fb_var 1) (fb_var 2)) (fw_or (ft_cmp ok_lt (fb_var 1) ((fe_int).b)) (fw_or (ft_cmp ok_lt (fb_var 2) ((fe_int).b)) (fw_or1 (ft_cmp ok_lt (fb_var 3) ((fe_int).b)))))).t)
      (fss_one (fs_raise (ps_raise rfl (takes_of rfl rfl rfl rfl) (pmk_own PySem.F.excBase_ValueError T.x_BadTie T.m_BadTie T.k_BadTie (raises_own T.bs_BadTie T.ty_BadTie) (by exact rfl)))))
      (fss_nil))
      (fss_cons (fs_fldS (i := 0) T.f_one (ps_fld (pv 0) (fe_var 1) rfl))
      (fss_cons (fs_fldS (i := 0) T.f_two (ps_fld (pv 0) (fe_var 2) rfl))
      (fss_one (fs_fldS (i := 0) T.f_strength (ps_fld (pv 0) (fe_var 3) rfl))))))
def g_Tie_init (A : Ad) : List D → Option (R (List (Str × D)))
  | [.int a, .int b, .int s] => if a = b ∨ a < 0 ∨ b < 0 ∨ s < 0 then some (.ex A.c_BadTie none) else some (.val [("one", .int a), ("two", .int b), ("strength", .int s)])
  | _ => none
theorem run_Tie_init (A : Ad) (x C : Addr) (hC : C = A.c_Pull ∨ C = A.c_Push) (a b s : Int) : b_Tie_init A [.oI x C [], .fz (.int a), .fz (.int b), .fz (.int s)] =
    if a = b ∨ a < 0 ∨ b < 0 ∨ s < 0 then some (.ex A.c_BadTie none) else some (.nx [.oI x C [("one", .int a), ("two", .int b), ("strength", .int s)], .fz (.int a), .fz (.int b), .fz (.int s)]) := by
  have o1 : ok_one A C = true := by unfold ok_one; rcases hC with h | h <;> simp [h]
  have o2 : ok_two A C = true := by unfold ok_two; rcases hC with h | h <;> simp [h]
  have o3 : ok_strength A C = true := by unfold ok_strength; rcases hC with h | h <;> simp [h]
  have n1 : ¬ (("two" : Str) = "one") := by decide +kernel
  have n2 : ¬ (("strength" : Str) = "one") := by decide +kernel
  have n3 : ¬ (("strength" : Str) = "two") := by decide +kernel
  by_cases h1 : a = b
  · simp [b_Tie_init, fSeq, fIfS, fOr, fT, fOp, fVarB, fC, oEqA, altG, oEqS, eqS, asB, fRaise, h1, pur]
  · by_cases h2 : a < 0
    · simp [b_Tie_init, fSeq, fIfS, fOr, fT, fOp, fVarB, fC, oEqA, altG, oEqS, eqS, asB, fRaise, h1, h2, pur, oLt, iOp0]
    · by_cases h3 : b < 0
      · simp [b_Tie_init, fSeq, fIfS, fOr, fT, fOp, fVarB, fC, oEqA, altG, oEqS, eqS, asB, fRaise, h1, h2, h3, pur, oLt, iOp0]
      · by_cases h4 : s < 0
        · simp [b_Tie_init, fSeq, fIfS, fOr, fT, fOp, fVarB, fC, oEqA, altG, oEqS, eqS, asB, fRaise, h1, h2, h3, h4, pur, oLt, iOp0]
        · simp [b_Tie_init, fSeq, fIfS, fOr, fT, fOp, fVarB, fVar, fC, oEqA, altG, oEqS, eqS, asB, fRaise, h1, h2, h3, h4, pur, oLt, iOp0, fNext, fFldS, o1, o2, o3, frD, Sl.fr, putFD, n1, n2, n3]
theorem g_Tie_init_args {A : Ad} {ds : List D} {r} (h : g_Tie_init A ds = some r) : ∃ a b s, ds = [.int a, .int b, .int s] := by
  unfold g_Tie_init at h
  split at h
  · exact ⟨_, _, _, rfl⟩
  · cases h
theorem oki_Tie_init (T : Txt K mg A) {C : Addr} (hC : C = A.c_Pull ∨ C = A.c_Push) : FnOk P w K mg base (L2.CX P w) 1 A.a_Tie_init A.d_Tie_init ["self", "one", "two", "strength"] (spI K C (g_Tie_init A)) := by
  refine ini_ok (x0 := "self") (N := ["one", "two", "strength"]) T.F_Tie_init sc_Tie_init (fun ds r h => ?_) (fun x ds fs h => ?_) (fun x ds C' fs h => ?_) (fss_Tie_init T)
  · obtain ⟨a, b, s, rfl⟩ := g_Tie_init_args h; rfl
  · obtain ⟨a, b, s, rfl⟩ := g_Tie_init_args h
    refine ⟨[.fz (.int a), .fz (.int b), .fz (.int s)], ?_⟩
    show b_Tie_init A [.oI x C [], .fz (.int a), .fz (.int b), .fz (.int s)] = _
    rw [run_Tie_init A x C hC]
    unfold g_Tie_init at h
    dsimp only at h
    split at h
    · cases h
    · rename_i hn; cases h; rw [if_neg hn]
  · obtain ⟨a, b, s, rfl⟩ := g_Tie_init_args h
    show b_Tie_init A [.oI x C [], .fz (.int a), .fz (.int b), .fz (.int s)] = _
    rw [run_Tie_init A x C hC]
    unfold g_Tie_init at h
    dsimp only at h
    split at h
    · rename_i hn; cases h; rw [if_pos hn]
    · cases h
theorem oki_Pull_Tie_init (T : Txt K mg A) : FnOk P w K mg base (L2.CX P w) 1 A.a_Tie_init A.d_Tie_init ["self", "one", "two", "strength"] (spI K A.c_Pull (g_Tie_init A)) := oki_Tie_init T (.inl rfl)
theorem oki_Push_Tie_init (T : Txt K mg A) : FnOk P w K mg base (L2.CX P w) 1 A.a_Tie_init A.d_Tie_init ["self", "one", "two", "strength"] (spI K A.c_Push (g_Tie_init A)) := oki_Tie_init T (.inr rfl)
/-! Pull_wish -/
noncomputable def b_Pull_wish (A : Ad) : Env → Option Out :=
 fRet (fC (.int 0))
noncomputable def g_Pull_wish (A : Ad) : List D → Option (R Sl) := gDef 1 1 (b_Pull_wish A)
theorem ok_Pull_wish (T : Txt K mg A) : FnOk P w K mg base (L2.CX P w) 1 A.a_Pull_wish A.d_Pull_wish ["self"] (spF K (g_Pull_wish A)) :=
 def_ok T.F_Pull_wish sc_Pull_wish fun cdv A0 outer s H E hr => by
  have nd := sc_Pull_wish.nd
  exact (fss_one (fs_ret (fe_int)))
/-! Push_wish -/
noncomputable def b_Push_wish (A : Ad) : Env → Option Out :=
 fRet (fC (.int 1))
noncomputable def g_Push_wish (A : Ad) : List D → Option (R Sl) := gDef 1 1 (b_Push_wish A)
theorem ok_Push_wish (T : Txt K mg A) : FnOk P w K mg base (L2.CX P w) 1 A.a_Push_wish A.d_Push_wish ["self"] (spF K (g_Push_wish A)) :=
 def_ok T.F_Push_wish sc_Push_wish fun cdv A0 outer s H E hr => by
  have nd := sc_Push_wish.nd
  exact (fss_one (fs_ret (fe_int)))
/-! Tie_unpleased -/
noncomputable def b_Tie_unpleased (A : Ad) : Env → Option Out :=
 fSeq (fAsgZ 2 (fOp oAddA (fOp oShr (fVarB 1) (fUn (fldS (ok_one A) "one") (fVarB 0))) (fOp oShr (fVarB 1) (fUn (fldS (ok_two A) "two") (fVarB 0)))))
 (fRet (fOp oNeA (fOp oAnd (fVarB 2) (fC (.int 1))) (alt (fMeth A.c_Pull "wish" (g_Pull_wish A) (fVar 0) (fNil)) (fMeth A.c_Push "wish" (g_Push_wish A) (fVar 0) (fNil)))))
noncomputable def g_Tie_unpleased (A : Ad) : List D → Option (R Sl) := gDef 2 3 (b_Tie_unpleased A)
theorem ok_Tie_unpleased (T : Txt K mg A) : FnOk P w K mg base (L2.CX P w) 2 A.a_Tie_unpleased A.d_Tie_unpleased ["self", "laying"] (spF K (g_Tie_unpleased A)) :=
 def_ok T.F_Tie_unpleased sc_Tie_unpleased fun cdv A0 outer s H E hr => by
  have nd := sc_Tie_unpleased.nd
  exact (fss_cons (fs_asgZ (ps_set (i := 2) nd rfl (by first | exact Or.inl rfl | exact Or.inr rfl) (fe_bin ok_addA ((fe_bin ok_shr (fb_var 1) ((fe_fld (fb_var 0) T.f_one).b)).b) ((fe_bin ok_shr (fb_var 1) ((fe_fld (fb_var 0) T.f_two).b)).b))))
      (fss_one (fs_ret (fe_cmp (ok_neA hr.units) ((fe_bin ok_and (fb_var 2) ((fe_int).b)).b) ((fe_alt (fe_meth0 (pe_meth0 (fe_var 0) T.cl_Pull T.me_Pull_wish (ok_Pull_wish T) (hr.mono (by decide)) (bd_Pull_wish T) .nil passDef1)) (fe_meth0 (pe_meth0 (fe_var 0) T.cl_Push T.me_Push_wish (ok_Push_wish T) (hr.mono (by decide)) (bd_Push_wish T) .nil passDef1))).b)))))
/-! Tie_price -/
noncomputable def b_Tie_price (A : Ad) : Env → Option Out :=
 fRet (fIf (fT (alt (fMeth A.c_Pull "unpleased" (g_Tie_unpleased A) (fVar 0) (fCons (fVar 1) (fNil))) (fMeth A.c_Push "unpleased" (g_Tie_unpleased A) (fVar 0) (fCons (fVar 1) (fNil))))) (fUn (fldS (ok_strength A) "strength") (fVarB 0)) (fC (.int 0)))
noncomputable def g_Tie_price (A : Ad) : List D → Option (R Sl) := gDef 2 2 (b_Tie_price A)
theorem ok_Tie_price (T : Txt K mg A) : FnOk P w K mg base (L2.CX P w) 3 A.a_Tie_price A.d_Tie_price ["self", "laying"] (spF K (g_Tie_price A)) :=
 def_ok T.F_Tie_price sc_Tie_price fun cdv A0 outer s H E hr => by
  have nd := sc_Tie_price.nd
  exact (fss_one (fs_ret (fe_if (ft_val (fe_alt (fe_meth (pe_meth (fe_var 0) T.cl_Pull T.me_Pull_unpleased (ok_Tie_unpleased T) (hr.mono (by decide)) (bd_Tie_unpleased T) .nil passDef1 (fa_cons (fe_var 1) (fa_nil)))) (fe_meth (pe_meth (fe_var 0) T.cl_Push T.me_Push_unpleased (ok_Tie_unpleased T) (hr.mono (by decide)) (bd_Tie_unpleased T) .nil passDef1 (fa_cons (fe_var 1) (fa_nil)))))) (fe_fld (fb_var 0) T.f_strength) (fe_int))))
/-! tie_of -/
noncomputable def b_tie_of (A : Ad) : Env → Option Out :=
 fSeq (fIfS (fT (fOp oGe (fVarB 2) (fC (.int 0))))
 (fRet (fMake A.c_Pull (g_Tie_init A) (fCons (fVar 0) (fCons (fVar 1) (fCons (fVar 2) (fNil))))))
 (fNext))
 (fRet (fMake A.c_Push (g_Tie_init A) (fCons (fVar 0) (fCons (fVar 1) (fCons (fUn oNeg (fVarB 2)) (fNil))))))
noncomputable def g_tie_of (A : Ad) : List D → Option (R Sl) := gDef 3 3 (b_tie_of A)
theorem ok_tie_of (T : Txt K mg A) : FnOk P w K mg base (L2.CX P w) 3 A.a_tie_of A.d_tie_of ["one", "two", "signed"] (spF K (g_tie_of A)) :=
 def_ok T.F_tie_of sc_tie_of fun cdv A0 outer s H E hr => by
  have nd := sc_tie_of.nd
  exact (fss_cons (fs_if (ft_cmp ok_ge (fb_var 2) ((fe_int).b))
      (fss_one (fs_ret (fe_make (pe_make T.mk_Pull (oki_Pull_Tie_init T) (hr.mono (by decide)) rfl T.m_Pull (bd_Tie_init T) .nil passDef1 (fa_cons (fe_var 0) (fa_cons (fe_var 1) (fa_cons (fe_var 2) (fa_nil))))))))
      (fss_nil))
      (fss_one (fs_ret (fe_make (pe_make T.mk_Push (oki_Push_Tie_init T) (hr.mono (by decide)) rfl T.m_Push (bd_Tie_init T) .nil passDef1 (fa_cons (fe_var 0) (fa_cons (fe_var 1) (fa_cons (fe_neg (fb_var 2)) (fa_nil)))))))))
/-! rows_of -/
noncomputable def lb1_rows_of (A : Ad) : Env → Option Out :=
 fIfS (fOr (fT (fOp oNeA (fCB gLen (fConsB (fVarB 3) (fNil))) (fVarB 1))) (fT (fOp oNeA (fCB gLen (fConsB (fVarB 2) (fNil))) (fOp oSub (fVarB 1) (fC (.int 1))))))
 (fRaise A.c_BadStrip)
 (fNext)
noncomputable def b_rows_of (A : Ad) : Env → Option Out :=
 fSeq (fIfS (fNot (fT (fChain oLe oLe (fC (.int 1)) (fCB gLen (fConsB (fVarB 0) (fNil))) (fC (.int 6)))))
 (fRaise A.c_BadStrip)
 (fNext))
 (fSeq (fAsgZ 1 (fCB gLen (fConsB (fIx (fIx (fVarB 0) (fC (.int 0))) (fC (.int 1))) (fNil))))
 (fSeq (fIfS (fNot (fT (fChain oLe oLe (fC (.int 1)) (fVarB 1) (fC (.int 3)))))
 (fRaise A.c_BadStrip)
 (fNext))
 (fSeq (fFor (fItL (fVar 0)) (gdT2 2 3)
 (lb1_rows_of A))
 (fRetV 1))))
noncomputable def g_rows_of (A : Ad) : List D → Option (R Sl) := gDef 1 4 (b_rows_of A)
theorem ok_rows_of (T : Txt K mg A) : FnOk P w K mg base (L2.CX P w) 1 A.a_rows_of A.d_rows_of ["pattern"] (spF K (g_rows_of A)) :=
 def_ok T.F_rows_of sc_rows_of fun cdv A0 outer s H E hr => by
  have nd := sc_rows_of.nd
  exact (fss_cons (fs_if (ft_not (ft_chain ok_le ok_le ((fe_int).b) ((fe_cb ok_len T.b_len PySem.boot_len (fab_cons (fb_var 0) (fab_nil))).b) ((fe_int).b)))
      (fss_one (fs_raise (ps_raise rfl (takes_of rfl rfl rfl rfl) (pmk_own PySem.F.excBase_ValueError T.x_BadStrip T.m_BadStrip T.k_BadStrip (raises_own T.bs_BadStrip T.ty_BadStrip) (by exact rfl)))))
      (fss_nil))
      (fss_cons (fs_asgZ (ps_set (i := 1) nd rfl (by first | exact Or.inl rfl | exact Or.inr rfl) (fe_cb ok_len T.b_len PySem.boot_len (fab_cons ((fe_ix (hu_of hr) ((fe_ix (hu_of hr) (fb_var 0) ((fe_int).b)).b) ((fe_int).b)).b) (fab_nil)))))
      (fss_cons (fs_if (ft_not (ft_chain ok_le ok_le ((fe_int).b) (fb_var 1) ((fe_int).b)))
      (fss_one (fs_raise (ps_raise rfl (takes_of rfl rfl rfl rfl) (pmk_own PySem.F.excBase_ValueError T.x_BadStrip T.m_BadStrip T.k_BadStrip (raises_own T.bs_BadStrip T.ty_BadStrip) (by exact rfl)))))
      (fss_nil))
      (fss_cons (fs_for (passes_of rfl) rfl (fi_list (fe_var 0)) (pg_tup rfl (pgs_cons (pg_name (i := 2) nd rfl (by first | exact Or.inl rfl | exact Or.inr rfl)) (pgs_cons (pg_name (i := 3) nd rfl (by first | exact Or.inl rfl | exact Or.inr rfl)) (pgs_nil)))) gdT2_ok
      (fss_one (fs_if ((fw_or (ft_cmp (ok_neA hr.units) ((fe_cb ok_len T.b_len PySem.boot_len (fab_cons (fb_var 3) (fab_nil))).b) (fb_var 1)) (fw_or1 (ft_cmp (ok_neA hr.units) ((fe_cb ok_len T.b_len PySem.boot_len (fab_cons (fb_var 2) (fab_nil))).b) ((fe_bin ok_sub (fb_var 1) ((fe_int).b)).b)))).t)
      (fss_one (fs_raise (ps_raise rfl (takes_of rfl rfl rfl rfl) (pmk_own PySem.F.excBase_ValueError T.x_BadStrip T.m_BadStrip T.k_BadStrip (raises_own T.bs_BadStrip T.ty_BadStrip) (by exact rfl)))))
      (fss_nil))))
      (fss_one (fs_retV (i := 1) (pv 1)))))))
/-! across_price -/
noncomputable def le1_across_price (A : Ad) : Env → Option (R Sl) :=
 alt (fMeth A.c_Pull "price" (g_Tie_price A) (fCall (g_tie_of A) (fCons (fVar 3) (fCons (fOp oAddA (fVarB 3) (fC (.int 1))) (fCons (fIx (fVarB 2) (fVarB 3)) (fNil))))) (fCons (fVar 1) (fNil))) (fMeth A.c_Push "price" (g_Tie_price A) (fCall (g_tie_of A) (fCons (fVar 3) (fCons (fOp oAddA (fVarB 3) (fC (.int 1))) (fCons (fIx (fVarB 2) (fVarB 3)) (fNil))))) (fCons (fVar 1) (fNil)))
noncomputable def b_across_price (A : Ad) : Env → Option Out :=
 fSeq (fAsgZ 2 (fIx (fVarB 0) (fC (.int 0))))
 (fRet (fCB gSum (fConsB (fLc (fRng rng1 (fConsB (fCB gLen (fConsB (fVarB 2) (fNil))) (fNil))) [3] (gdN 3) (fYes) (le1_across_price A)) (fNil))))
noncomputable def g_across_price (A : Ad) : List D → Option (R Sl) := gDef 2 4 (b_across_price A)
theorem ok_across_price (T : Txt K mg A) : FnOk P w K mg base (L2.CX P w) 4 A.a_across_price A.d_across_price ["column", "signs"] (spF K (g_across_price A)) :=
 def_ok T.F_across_price sc_across_price fun cdv A0 outer s H E hr => by
  have nd := sc_across_price.nd
  exact (fss_cons (fs_asgZ (ps_set (i := 2) nd rfl (by first | exact Or.inl rfl | exact Or.inr rfl) (fe_ix (hu_of hr) (fb_var 0) ((fe_int).b))))
      (fss_one (fs_ret (fe_cb (ok_sum rfl) T.b_sum (by decide +kernel) (fab_cons ((fe_lc (own := [("r", 3)]) rfl nd (fi_range1 T.b_range (fab_cons ((fe_cb ok_len T.b_len PySem.boot_len (fab_cons (fb_var 2) (fab_nil))).b) (fab_nil))) (blkOk_by (by kernel_rfl)) (fun _ _ _ _ _ => pg_name (i := 3) nd rfl (by first | exact Or.inl rfl | exact Or.inr rfl)) gdN_ok (fun _ _ _ _ _ => fts_nil) (fun _ _ _ _ _ => fe_alt (fe_meth (pe_meth (fe_call (ok_tie_of T) (hr.mono (by decide)) T.m_tie_of T.F_tie_of.kp (bd_tie_of T) passAt0 (fa_cons (fe_var 3) (fa_cons (fe_bin ok_addA (fb_var 3) ((fe_int).b)) (fa_cons (fe_ix (hu_of hr) (fb_var 2) (fb_var 3)) (fa_nil))))) T.cl_Pull T.me_Pull_price (ok_Tie_price T) (hr.mono (by decide)) (bd_Tie_price T) .nil pass0E (fa_cons (fe_var 1) (fa_nil)))) (fe_meth (pe_meth (fe_call (ok_tie_of T) (hr.mono (by decide)) T.m_tie_of T.F_tie_of.kp (bd_tie_of T) passAt0 (fa_cons (fe_var 3) (fa_cons (fe_bin ok_addA (fb_var 3) ((fe_int).b)) (fa_cons (fe_ix (hu_of hr) (fb_var 2) (fb_var 3)) (fa_nil))))) T.cl_Push T.me_Push_price (ok_Tie_price T) (hr.mono (by decide)) (bd_Tie_price T) .nil pass0E (fa_cons (fe_var 1) (fa_nil)))))).b) (fab_nil))))))
/-! along_price -/
noncomputable def le1_along_price (A : Ad) : Env → Option (R Sl) :=
 alt (fMeth A.c_Pull "price" (g_Tie_price A) (fCall (g_tie_of A) (fCons (fVar 6) (fCons (fOp oAddA (fVarB 6) (fVarB 4)) (fCons (fIx (fVarB 3) (fVarB 6)) (fNil))))) (fCons (fVar 5) (fNil))) (fMeth A.c_Push "price" (g_Tie_price A) (fCall (g_tie_of A) (fCons (fVar 6) (fCons (fOp oAddA (fVarB 6) (fVarB 4)) (fCons (fIx (fVarB 3) (fVarB 6)) (fNil))))) (fCons (fVar 5) (fNil)))
noncomputable def b_along_price (A : Ad) : Env → Option Out :=
 fSeq (fAsgZ 3 (fIx (fVarB 0) (fC (.int 1))))
 (fSeq (fAsgZ 4 (fCB gLen (fConsB (fVarB 3) (fNil))))
 (fSeq (fAsgZ 5 (fOp oOr (fVarB 1) (fOp oShl (fVarB 2) (fVarB 4))))
 (fRet (fCB gSum (fConsB (fLc (fRng rng1 (fConsB (fVarB 4) (fNil))) [6] (gdN 6) (fYes) (le1_along_price A)) (fNil))))))
noncomputable def g_along_price (A : Ad) : List D → Option (R Sl) := gDef 3 7 (b_along_price A)
theorem ok_along_price (T : Txt K mg A) : FnOk P w K mg base (L2.CX P w) 4 A.a_along_price A.d_along_price ["column", "signs", "after"] (spF K (g_along_price A)) :=
 def_ok T.F_along_price sc_along_price fun cdv A0 outer s H E hr => by
  have nd := sc_along_price.nd
  exact (fss_cons (fs_asgZ (ps_set (i := 3) nd rfl (by first | exact Or.inl rfl | exact Or.inr rfl) (fe_ix (hu_of hr) (fb_var 0) ((fe_int).b))))
      (fss_cons (fs_asgZ (ps_set (i := 4) nd rfl (by first | exact Or.inl rfl | exact Or.inr rfl) (fe_cb ok_len T.b_len PySem.boot_len (fab_cons (fb_var 3) (fab_nil)))))
      (fss_cons (fs_asgZ (ps_set (i := 5) nd rfl (by first | exact Or.inl rfl | exact Or.inr rfl) (fe_bin ok_or (fb_var 1) ((fe_bin ok_shl (fb_var 2) (fb_var 4)).b))))
      (fss_one (fs_ret (fe_cb (ok_sum rfl) T.b_sum (by decide +kernel) (fab_cons ((fe_lc (own := [("r", 6)]) rfl nd (fi_range1 T.b_range (fab_cons (fb_var 4) (fab_nil))) (blkOk_by (by kernel_rfl)) (fun _ _ _ _ _ => pg_name (i := 6) nd rfl (by first | exact Or.inl rfl | exact Or.inr rfl)) gdN_ok (fun _ _ _ _ _ => fts_nil) (fun _ _ _ _ _ => fe_alt (fe_meth (pe_meth (fe_call (ok_tie_of T) (hr.mono (by decide)) T.m_tie_of T.F_tie_of.kp (bd_tie_of T) passAt0 (fa_cons (fe_var 6) (fa_cons (fe_bin ok_addA (fb_var 6) (fb_var 4)) (fa_cons (fe_ix (hu_of hr) (fb_var 3) (fb_var 6)) (fa_nil))))) T.cl_Pull T.me_Pull_price (ok_Tie_price T) (hr.mono (by decide)) (bd_Tie_price T) .nil pass0E (fa_cons (fe_var 5) (fa_nil)))) (fe_meth (pe_meth (fe_call (ok_tie_of T) (hr.mono (by decide)) T.m_tie_of T.F_tie_of.kp (bd_tie_of T) passAt0 (fa_cons (fe_var 6) (fa_cons (fe_bin ok_addA (fb_var 6) (fb_var 4)) (fa_cons (fe_ix (hu_of hr) (fb_var 3) (fb_var 6)) (fa_nil))))) T.cl_Push T.me_Push_price (ok_Tie_price T) (hr.mono (by decide)) (bd_Tie_price T) .nil pass0E (fa_cons (fe_var 5) (fa_nil)))))).b) (fab_nil))))))))
/-! column_table -/
noncomputable def le1_column_table (A : Ad) : Env → Option (R Sl) :=
 fTup (fCons (fOp oAddA (fVarB 4) (fCall (g_along_price A) (fCons (fVar 0) (fCons (fVar 3) (fCons (fVar 5) (fNil)))))) (fCons (fC (.int 1)) (fNil)))
noncomputable def lb1_column_table (A : Ad) : Env → Option Out :=
 fSeq (fAsgZ 4 (fCall (g_across_price A) (fCons (fVar 0) (fCons (fVar 3) (fNil)))))
 (fApp 2 (fLc (fRng rng1 (fConsB (fVarB 1) (fNil))) [5] (gdN 5) (fYes) (le1_column_table A)))
noncomputable def b_column_table (A : Ad) : Env → Option Out :=
 fSeq (fAsgZ 1 (fOp oShl (fC (.int 1)) (fCB gLen (fConsB (fIx (fVarB 0) (fC (.int 1))) (fNil)))))
 (fSeq (fAsg 2 (fLst (fNil)))
 (fSeq (fFor (fRng rng1 (fConsB (fVarB 1) (fNil))) (gdN 3)
 (lb1_column_table A))
 (fRetV 2)))
noncomputable def g_column_table (A : Ad) : List D → Option (R Sl) := gDef 1 6 (b_column_table A)
theorem ok_column_table (T : Txt K mg A) : FnOk P w K mg base (L2.CX P w) 5 A.a_column_table A.d_column_table ["column"] (spF K (g_column_table A)) :=
 def_ok T.F_column_table sc_column_table fun cdv A0 outer s H E hr => by
  have nd := sc_column_table.nd
  exact (fss_cons (fs_asgZ (ps_set (i := 1) nd rfl (by first | exact Or.inl rfl | exact Or.inr rfl) (fe_bin ok_shl ((fe_int).b) ((fe_cb ok_len T.b_len PySem.boot_len (fab_cons ((fe_ix (hu_of hr) (fb_var 0) ((fe_int).b)).b) (fab_nil))).b))))
      (fss_cons (fs_asg (ps_set (i := 2) nd rfl (by first | exact Or.inl rfl | exact Or.inr rfl) (fe_lst (fa_nil))))
      (fss_cons (fs_for (passes_of rfl) rfl (fi_range1 T.b_range (fab_cons (fb_var 1) (fab_nil))) (pg_name (i := 3) nd rfl (by first | exact Or.inl rfl | exact Or.inr rfl)) gdN_ok
      (fss_cons (fs_asgZ (ps_set (i := 4) nd rfl (by first | exact Or.inl rfl | exact Or.inr rfl) (fe_call (ok_across_price T) (hr.mono (by decide)) T.m_across_price T.F_across_price.kp (bd_across_price T) passDef (fa_cons (fe_var 0) (fa_cons (fe_var 3) (fa_nil))))))
      (fss_one (fs_app (i := 2) (ps_expr (pe_bm PySem.F.plainAttrs_list PySem.F.slot_list_append PySem.F.type_list_append mt_append (pv 2) (pa_cons (fe_lc (own := [("after", 5)]) rfl nd (fi_range1 T.b_range (fab_cons (fb_var 1) (fab_nil))) (blkOk_by (by kernel_rfl)) (fun _ _ _ _ _ => pg_name (i := 5) nd rfl (by first | exact Or.inl rfl | exact Or.inr rfl)) gdN_ok (fun _ _ _ _ _ => fts_nil) (fun _ _ _ _ _ => fe_tup (fa_cons (fe_bin ok_addA (fb_var 4) ((fe_call (ok_along_price T) (hr.mono (by decide)) T.m_along_price T.F_along_price.kp (bd_along_price T) passAt0 (fa_cons (fe_var 0) (fa_cons (fe_var 3) (fa_cons (fe_var 5) (fa_nil))))).b)) (fa_cons (fe_int) (fa_nil))))) pa_nil)))))))
      (fss_one (fs_retV (i := 2) (pv 2))))))
/-! step_table -/
noncomputable def lb1_step_table (A : Ad) : Env → Option Out :=
 fAsgZ 1 (fCall (g_tables_joined A) (fCons (fVar 1) (fCons (fCall (g_column_table A) (fCons (fVar 2) (fNil))) (fCons (fC (.int 1000000000)) (fNil)))))
noncomputable def b_step_table (A : Ad) : Env → Option Out :=
 fSeq (fDrop (fCall (g_rows_of A) (fCons (fVar 0) (fNil))))
 (fSeq (fAsgZ 1 (fCall (g_column_table A) (fCons (fIx (fVarB 0) (fC (.int 0))) (fNil))))
 (fSeq (fFor (fItL (fSlice (fVarB 0) (fPart (fC (.int 1))) (fNoPart))) (gdN 2)
 (lb1_step_table A))
 (fRetV 1)))
noncomputable def g_step_table (A : Ad) : List D → Option (R Sl) := gDef 1 3 (b_step_table A)
theorem ok_step_table (T : Txt K mg A) : FnOk P w K mg base (L2.CX P w) 6 A.a_step_table A.d_step_table ["pattern"] (spF K (g_step_table A)) :=
 def_ok T.F_step_table sc_step_table fun cdv A0 outer s H E hr => by
  have nd := sc_step_table.nd
  exact (fss_cons (fs_expr (ps_expr (fe_call (ok_rows_of T) (hr.mono (by decide)) T.m_rows_of T.F_rows_of.kp (bd_rows_of T) passDef (fa_cons (fe_var 0) (fa_nil)))))
      (fss_cons (fs_asgZ (ps_set (i := 1) nd rfl (by first | exact Or.inl rfl | exact Or.inr rfl) (fe_call (ok_column_table T) (hr.mono (by decide)) T.m_column_table T.F_column_table.kp (bd_column_table T) passDef (fa_cons (fe_ix (hu_of hr) (fb_var 0) ((fe_int).b)) (fa_nil)))))
      (fss_cons (fs_for (passes_of rfl) rfl (fi_list (fe_slice (fb_var 0) (fo_some ((fe_int).b)) (fo_none))) (pg_name (i := 2) nd rfl (by first | exact Or.inl rfl | exact Or.inr rfl)) gdN_ok
      (fss_one (fs_asgZ (ps_set (i := 1) nd rfl (by first | exact Or.inl rfl | exact Or.inr rfl) (fe_call (ok_tables_joined T) (hr.mono (by decide)) T.m_tables_joined T.F_tables_joined.kp (bd_tables_joined T) passDef (fa_cons (fe_var 1) (fa_cons (fe_call (ok_column_table T) (hr.mono (by decide)) T.m_column_table T.F_column_table.kp (bd_column_table T) passDef (fa_cons (fe_var 2) (fa_nil))) (fa_cons (fe_globI T.g_MOST_MODULUS) (fa_nil)))))))))
      (fss_one (fs_retV (i := 1) (pv 1))))))
/-! strip_least -/
noncomputable def le1_strip_least (A : Ad) : Env → Option (R Sl) :=
 fTup (fCons (fC (.int 0)) (fCons (fC (.int 1)) (fNil)))
noncomputable def lb1_strip_least (A : Ad) : Env → Option Out :=
 fAsgZ 4 (fCall (g_row_joined A) (fCons (fVar 4) (fCons (fCall (g_column_table A) (fCons (fVar 5) (fNil))) (fCons (fVar 2) (fNil)))))
noncomputable def le2_strip_least (A : Ad) : Env → Option (R Sl) :=
 fOp oAddA (fIx (fIx (fVarB 4) (fVarB 11)) (fC (.int 0))) (fCall (g_across_price A) (fCons (fIx (fVarB 0) (fVarB 10)) (fCons (fVar 11) (fNil))))
noncomputable def lt1_strip_least (A : Ad) : Env → Option (R Bool) :=
 fT (fOp oEqA (fIx (fVarB 6) (fVarB 11)) (fVarB 7))
noncomputable def le3_strip_least (A : Ad) : Env → Option (R Sl) :=
 fIx (fIx (fVarB 4) (fVarB 11)) (fC (.int 1))
noncomputable def b_strip_least (A : Ad) : Env → Option Out :=
 fSeq (fAsgZ 3 (fCall (g_rows_of A) (fCons (fVar 0) (fNil))))
 (fSeq (fIfS (fOr (fNot (fT (fChain oLe oLe (fC (.int 1)) (fVarB 1) (fC (.int 1000000000000000000))))) (fNot (fT (fChain oLe oLe (fC (.int 2)) (fVarB 2) (fC (.int 1000000000))))))
 (fRaise A.c_BadStrip)
 (fNext))
 (fSeq (fAsgG (gdT2 9 10) (fCB gDivmod (fConsB (fOp oSub (fVarB 1) (fC (.int 1))) (fConsB (fCB gLen (fConsB (fVarB 0) (fNil))) (fNil)))))
 (fSeq (fAsgZ 4 (fLc (fRng rng1 (fConsB (fOp oShl (fC (.int 1)) (fVarB 3)) (fNil))) [11] (gdN 11) (fYes) (le1_strip_least A)))
 (fSeq (fIfS (fT (fOp oGt (fVarB 9) (fC (.int 0))))
 (fAsgZ 4 (fCall (g_row_joined A) (fCons (fVar 4) (fCons (fCall (g_table_power A) (fCons (fCall (g_step_table A) (fCons (fVar 0) (fNil))) (fCons (fVar 9) (fCons (fVar 2) (fNil))))) (fCons (fVar 2) (fNil))))))
 (fNext))
 (fSeq (fFor (fItL (fSlice (fVarB 0) (fNoPart) (fPart (fVarB 10)))) (gdN 5)
 (lb1_strip_least A))
 (fSeq (fAsgZ 6 (fLc (fRng rng1 (fConsB (fOp oShl (fC (.int 1)) (fVarB 3)) (fNil))) [11] (gdN 11) (fYes) (le2_strip_least A)))
 (fSeq (fAsgZ 7 (fCB gMin (fConsB (fVarB 6) (fNil))))
 (fSeq (fAsgZ 8 (fCB gSum (fConsB (fLc (fRng rng1 (fConsB (fOp oShl (fC (.int 1)) (fVarB 3)) (fNil))) [11] (gdN 11) (lt1_strip_least A) (le3_strip_least A)) (fNil))))
 (fRet (fTup (fCons (fVar 7) (fCons (fOp oMod (fVarB 8) (fVarB 2)) (fNil)))))))))))))
noncomputable def g_strip_least (A : Ad) : List D → Option (R Sl) := gDef 3 12 (b_strip_least A)
theorem ok_strip_least (T : Txt K mg A) : FnOk P w K mg base (L2.CX P w) 7 A.a_strip_least A.d_strip_least ["pattern", "columns", "modulus"] (spF K (g_strip_least A)) :=
 def_ok T.F_strip_least sc_strip_least fun cdv A0 outer s H E hr => by
  have nd := sc_strip_least.nd
  exact (fss_cons (fs_asgZ (ps_set (i := 3) nd rfl (by first | exact Or.inl rfl | exact Or.inr rfl) (fe_call (ok_rows_of T) (hr.mono (by decide)) T.m_rows_of T.F_rows_of.kp (bd_rows_of T) passDef (fa_cons (fe_var 0) (fa_nil)))))
      (fss_cons (fs_if ((fw_or (ft_not (ft_chain ok_le ok_le ((fe_int).b) (fb_var 1) ((fe_globI T.g_MOST_COLUMNS).b))) (fw_or1 (ft_not (ft_chain ok_le ok_le ((fe_int).b) (fb_var 2) ((fe_globI T.g_MOST_MODULUS).b))))).t)
      (fss_one (fs_raise (ps_raise rfl (takes_of rfl rfl rfl rfl) (pmk_own PySem.F.excBase_ValueError T.x_BadStrip T.m_BadStrip T.k_BadStrip (raises_own T.bs_BadStrip T.ty_BadStrip) (by exact rfl)))))
      (fss_nil))
      (fss_cons (fs_asgG (ps_asg (fe_cb ok_divmod T.b_divmod (by decide +kernel) (fab_cons ((fe_bin ok_sub (fb_var 1) ((fe_int).b)).b) (fab_cons ((fe_cb ok_len T.b_len PySem.boot_len (fab_cons (fb_var 0) (fab_nil))).b) (fab_nil)))) (pg_tup rfl (pgs_cons (pg_name (i := 9) nd rfl (by first | exact Or.inl rfl | exact Or.inr rfl)) (pgs_cons (pg_name (i := 10) nd rfl (by first | exact Or.inl rfl | exact Or.inr rfl)) (pgs_nil))))) gdT2_ok)
      (fss_cons (fs_asgZ (ps_set (i := 4) nd rfl (by first | exact Or.inl rfl | exact Or.inr rfl) (fe_lc (own := [("signs", 11)]) rfl nd (fi_range1 T.b_range (fab_cons ((fe_bin ok_shl ((fe_int).b) (fb_var 3)).b) (fab_nil))) (blkOk_by (by kernel_rfl)) (fun _ _ _ _ _ => pg_name (i := 11) nd rfl (by first | exact Or.inl rfl | exact Or.inr rfl)) gdN_ok (fun _ _ _ _ _ => fts_nil) (fun _ _ _ _ _ => fe_tup (fa_cons (fe_int) (fa_cons (fe_int) (fa_nil)))))))
      (fss_cons (fs_if (ft_cmp ok_gt (fb_var 9) ((fe_int).b))
      (fss_one (fs_asgZ (ps_set (i := 4) nd rfl (by first | exact Or.inl rfl | exact Or.inr rfl) (fe_call (ok_row_joined T) (hr.mono (by decide)) T.m_row_joined T.F_row_joined.kp (bd_row_joined T) passDef (fa_cons (fe_var 4) (fa_cons (fe_call (ok_table_power T) (hr.mono (by decide)) T.m_table_power T.F_table_power.kp (bd_table_power T) passDef (fa_cons (fe_call (ok_step_table T) (hr.mono (by decide)) T.m_step_table T.F_step_table.kp (bd_step_table T) passDef (fa_cons (fe_var 0) (fa_nil))) (fa_cons (fe_var 9) (fa_cons (fe_var 2) (fa_nil))))) (fa_cons (fe_var 2) (fa_nil))))))))
      (fss_nil))
      (fss_cons (fs_for (passes_of rfl) rfl (fi_list (fe_slice (fb_var 0) (fo_none) (fo_some (fb_var 10)))) (pg_name (i := 5) nd rfl (by first | exact Or.inl rfl | exact Or.inr rfl)) gdN_ok
      (fss_one (fs_asgZ (ps_set (i := 4) nd rfl (by first | exact Or.inl rfl | exact Or.inr rfl) (fe_call (ok_row_joined T) (hr.mono (by decide)) T.m_row_joined T.F_row_joined.kp (bd_row_joined T) passDef (fa_cons (fe_var 4) (fa_cons (fe_call (ok_column_table T) (hr.mono (by decide)) T.m_column_table T.F_column_table.kp (bd_column_table T) passDef (fa_cons (fe_var 5) (fa_nil))) (fa_cons (fe_var 2) (fa_nil)))))))))
      (fss_cons (fs_asgZ (ps_set (i := 6) nd rfl (by first | exact Or.inl rfl | exact Or.inr rfl) (fe_lc (own := [("signs", 11)]) rfl nd (fi_range1 T.b_range (fab_cons ((fe_bin ok_shl ((fe_int).b) (fb_var 3)).b) (fab_nil))) (blkOk_by (by kernel_rfl)) (fun _ _ _ _ _ => pg_name (i := 11) nd rfl (by first | exact Or.inl rfl | exact Or.inr rfl)) gdN_ok (fun _ _ _ _ _ => fts_nil) (fun _ _ _ _ _ => fe_bin ok_addA ((fe_ix (hu_of hr) ((fe_ix (hu_of hr) (fb_var 4) (fb_var 11)).b) ((fe_int).b)).b) ((fe_call (ok_across_price T) (hr.mono (by decide)) T.m_across_price T.F_across_price.kp (bd_across_price T) passAt0 (fa_cons (fe_ix (hu_of hr) (fb_var 0) (fb_var 10)) (fa_cons (fe_var 11) (fa_nil)))).b)))))
      (fss_cons (fs_asgZ (ps_set (i := 7) nd rfl (by first | exact Or.inl rfl | exact Or.inr rfl) (fe_cb (ok_min rfl) T.b_min (by decide +kernel) (fab_cons (fb_var 6) (fab_nil)))))
      (fss_cons (fs_asgZ (ps_set (i := 8) nd rfl (by first | exact Or.inl rfl | exact Or.inr rfl) (fe_cb (ok_sum rfl) T.b_sum (by decide +kernel) (fab_cons ((fe_lc (own := [("signs", 11)]) rfl nd (fi_range1 T.b_range (fab_cons ((fe_bin ok_shl ((fe_int).b) (fb_var 3)).b) (fab_nil))) (blkOk_by (by kernel_rfl)) (fun _ _ _ _ _ => pg_name (i := 11) nd rfl (by first | exact Or.inl rfl | exact Or.inr rfl)) gdN_ok (fun _ _ _ _ _ => fts_one (ft_cmp (ok_eqA hr.units) ((fe_ix (hu_of hr) (fb_var 6) (fb_var 11)).b) (fb_var 7))) (fun _ _ _ _ _ => fe_ix (hu_of hr) ((fe_ix (hu_of hr) (fb_var 4) (fb_var 11)).b) ((fe_int).b))).b) (fab_nil)))))
      (fss_one (fs_ret (fe_tup (fa_cons (fe_var 7) (fa_cons (fe_bin ok_mod (fb_var 8) (fb_var 2)) (fa_nil)))))))))))))))
/-! lows_of -/
noncomputable def le1_lows_of (A : Ad) : Env → Option (R Sl) :=
 fIx (fVarB 1) (fC (.int 0))
noncomputable def b_lows_of (A : Ad) : Env → Option Out :=
 fRet (fLc (fItB (fVarB 0)) [1] (gdN 1) (fYes) (le1_lows_of A))
noncomputable def g_lows_of (A : Ad) : List D → Option (R Sl) := gDef 1 2 (b_lows_of A)
theorem ok_lows_of (T : Txt K mg A) : FnOk P w K mg base (L2.CX P w) 1 A.a_lows_of A.d_lows_of ["row"] (spF K (g_lows_of A)) :=
 def_ok T.F_lows_of sc_lows_of fun cdv A0 outer s H E hr => by
  have nd := sc_lows_of.nd
  exact (fss_one (fs_ret (fe_lc (own := [("entry", 1)]) rfl nd (fi_listB (fb_var 0)) (blkOk_by (by kernel_rfl)) (fun _ _ _ _ _ => pg_name (i := 1) nd rfl (by first | exact Or.inl rfl | exact Or.inr rfl)) gdN_ok (fun _ _ _ _ _ => fts_nil) (fun _ _ _ _ _ => fe_ix (hu_of hr) (fb_var 1) ((fe_int).b)))))
/-! lowest_into -/
noncomputable def le1_lowest_into (A : Ad) : Env → Option (R Sl) :=
 fOp oAddA (fIx (fVarB 0) (fVarB 3)) (fIx (fIx (fVarB 1) (fVarB 3)) (fVarB 2))
noncomputable def b_lowest_into (A : Ad) : Env → Option Out :=
 fRet (fCB gMin (fConsB (fLc (fRng rng1 (fConsB (fCB gLen (fConsB (fVarB 1) (fNil))) (fNil))) [3] (gdN 3) (fYes) (le1_lowest_into A)) (fNil)))
noncomputable def g_lowest_into (A : Ad) : List D → Option (R Sl) := gDef 3 4 (b_lowest_into A)
theorem ok_lowest_into (T : Txt K mg A) : FnOk P w K mg base (L2.CX P w) 1 A.a_lowest_into A.d_lowest_into ["heights", "costs", "goal"] (spF K (g_lowest_into A)) :=
 def_ok T.F_lowest_into sc_lowest_into fun cdv A0 outer s H E hr => by
  have nd := sc_lowest_into.nd
  exact (fss_one (fs_ret (fe_cb (ok_min rfl) T.b_min (by decide +kernel) (fab_cons ((fe_lc (own := [("start", 3)]) rfl nd (fi_range1 T.b_range (fab_cons ((fe_cb ok_len T.b_len PySem.boot_len (fab_cons (fb_var 1) (fab_nil))).b) (fab_nil))) (blkOk_by (by kernel_rfl)) (fun _ _ _ _ _ => pg_name (i := 3) nd rfl (by first | exact Or.inl rfl | exact Or.inr rfl)) gdN_ok (fun _ _ _ _ _ => fts_nil) (fun _ _ _ _ _ => fe_bin ok_addA ((fe_ix (hu_of hr) (fb_var 0) (fb_var 3)).b) ((fe_ix (hu_of hr) ((fe_ix (hu_of hr) (fb_var 1) (fb_var 3)).b) (fb_var 2)).b))).b) (fab_nil)))))
/-! walks -/
noncomputable def le1_walks (A : Ad) : Env → Option (R Sl) :=
 fC (.int 0)
noncomputable def le2_walks (A : Ad) : Env → Option (R Sl) :=
 fCall (g_lowest_into A) (fCons (fIx (fVarB 2) (fUn oNeg (fC (.int 1)))) (fCons (fVar 0) (fCons (fVar 5) (fNil))))
noncomputable def lb1_walks (A : Ad) : Env → Option Out :=
 fApp 2 (fLc (fRng rng1 (fConsB (fVarB 1) (fNil))) [5] (gdN 5) (fYes) (le2_walks A))
noncomputable def b_walks (A : Ad) : Env → Option Out :=
 fSeq (fAsgZ 1 (fCB gLen (fConsB (fVarB 0) (fNil))))
 (fSeq (fAsg 2 (fLst (fCons (fLc (fRng rng1 (fConsB (fVarB 1) (fNil))) [4] (gdN 4) (fYes) (le1_walks A)) (fNil))))
 (fSeq (fFor (fRng rng1 (fConsB (fVarB 1) (fNil))) (gdN 3)
 (lb1_walks A))
 (fRetV 2)))
noncomputable def g_walks (A : Ad) : List D → Option (R Sl) := gDef 1 6 (b_walks A)
theorem ok_walks (T : Txt K mg A) : FnOk P w K mg base (L2.CX P w) 2 A.a_walks A.d_walks ["costs"] (spF K (g_walks A)) :=
 def_ok T.F_walks sc_walks fun cdv A0 outer s H E hr => by
  have nd := sc_walks.nd
  exact (fss_cons (fs_asgZ (ps_set (i := 1) nd rfl (by first | exact Or.inl rfl | exact Or.inr rfl) (fe_cb ok_len T.b_len PySem.boot_len (fab_cons (fb_var 0) (fab_nil)))))
      (fss_cons (fs_asg (ps_set (i := 2) nd rfl (by first | exact Or.inl rfl | exact Or.inr rfl) (fe_lst (fa_cons (fe_lc (own := [("place", 4)]) rfl nd (fi_range1 T.b_range (fab_cons (fb_var 1) (fab_nil))) (blkOk_by (by kernel_rfl)) (fun _ _ _ _ _ => pg_name (i := 4) nd rfl (by first | exact Or.inl rfl | exact Or.inr rfl)) gdN_ok (fun _ _ _ _ _ => fts_nil) (fun _ _ _ _ _ => fe_int)) (fa_nil)))))
      (fss_cons (fs_for (passes_of rfl) rfl (fi_range1 T.b_range (fab_cons (fb_var 1) (fab_nil))) (pg_name (i := 3) nd rfl (by first | exact Or.inl rfl | exact Or.inr rfl)) gdN_ok
      (fss_one (fs_app (i := 2) (ps_expr (pe_bm PySem.F.plainAttrs_list PySem.F.slot_list_append PySem.F.type_list_append mt_append (pv 2) (pa_cons (fe_lc (own := [("goal", 5)]) rfl nd (fi_range1 T.b_range (fab_cons (fb_var 1) (fab_nil))) (blkOk_by (by kernel_rfl)) (fun _ _ _ _ _ => pg_name (i := 5) nd rfl (by first | exact Or.inl rfl | exact Or.inr rfl)) gdN_ok (fun _ _ _ _ _ => fts_nil) (fun _ _ _ _ _ => fe_call (ok_lowest_into T) (hr.mono (by decide)) T.m_lowest_into T.F_lowest_into.kp (bd_lowest_into T) passAt0 (fa_cons (fe_ix (hu_of hr) (fb_var 2) ((fe_neg ((fe_int).b)).b)) (fa_cons (fe_var 0) (fa_cons (fe_var 5) (fa_nil)))))) pa_nil))))))
      (fss_one (fs_retV (i := 2) (pv 2))))))
/-! steepest -/
noncomputable def lb1_steepest (A : Ad) : Env → Option Out :=
 fSeq (fAsgZ 5 (fOp oSub (fIx (fIx (fVarB 0) (fVarB 2)) (fVarB 1)) (fIx (fIx (fVarB 0) (fVarB 4)) (fVarB 1))))
 (fIfS (fT (fOp oGt (fOp oMul (fVarB 5) (fIx (fVarB 3) (fC (.int 1)))) (fOp oMul (fIx (fVarB 3) (fC (.int 0))) (fOp oSub (fVarB 2) (fVarB 4)))))
 (fAsgZ 3 (fTup (fCons (fVar 5) (fCons (fOp oSub (fVarB 2) (fVarB 4)) (fNil)))))
 (fNext))
noncomputable def b_steepest (A : Ad) : Env → Option Out :=
 fSeq (fAsgZ 2 (fOp oSub (fCB gLen (fConsB (fVarB 0) (fNil))) (fC (.int 1))))
 (fSeq (fAsgZ 3 (fTup (fCons (fOp oSub (fIx (fIx (fVarB 0) (fVarB 2)) (fVarB 1)) (fIx (fIx (fVarB 0) (fC (.int 0))) (fVarB 1))) (fCons (fVar 2) (fNil)))))
 (fSeq (fFor (fRng rng2 (fConsB (fC (.int 1)) (fConsB (fVarB 2) (fNil)))) (gdN 4)
 (lb1_steepest A))
 (fRetV 3)))
noncomputable def g_steepest (A : Ad) : List D → Option (R Sl) := gDef 2 6 (b_steepest A)
theorem ok_steepest (T : Txt K mg A) : FnOk P w K mg base (L2.CX P w) 1 A.a_steepest A.d_steepest ["found", "place"] (spF K (g_steepest A)) :=
 def_ok T.F_steepest sc_steepest fun cdv A0 outer s H E hr => by
  have nd := sc_steepest.nd
  exact (fss_cons (fs_asgZ (ps_set (i := 2) nd rfl (by first | exact Or.inl rfl | exact Or.inr rfl) (fe_bin ok_sub ((fe_cb ok_len T.b_len PySem.boot_len (fab_cons (fb_var 0) (fab_nil))).b) ((fe_int).b))))
      (fss_cons (fs_asgZ (ps_set (i := 3) nd rfl (by first | exact Or.inl rfl | exact Or.inr rfl) (fe_tup (fa_cons (fe_bin ok_sub ((fe_ix (hu_of hr) ((fe_ix (hu_of hr) (fb_var 0) (fb_var 2)).b) (fb_var 1)).b) ((fe_ix (hu_of hr) ((fe_ix (hu_of hr) (fb_var 0) ((fe_int).b)).b) (fb_var 1)).b)) (fa_cons (fe_var 2) (fa_nil))))))
      (fss_cons (fs_for (passes_of rfl) rfl (fi_range2 T.b_range (fab_cons ((fe_int).b) (fab_cons (fb_var 2) (fab_nil)))) (pg_name (i := 4) nd rfl (by first | exact Or.inl rfl | exact Or.inr rfl)) gdN_ok
      (fss_cons (fs_asgZ (ps_set (i := 5) nd rfl (by first | exact Or.inl rfl | exact Or.inr rfl) (fe_bin ok_sub ((fe_ix (hu_of hr) ((fe_ix (hu_of hr) (fb_var 0) (fb_var 2)).b) (fb_var 1)).b) ((fe_ix (hu_of hr) ((fe_ix (hu_of hr) (fb_var 0) (fb_var 4)).b) (fb_var 1)).b))))
      (fss_one (fs_if (ft_cmp ok_gt ((fe_bin ok_mul (fb_var 5) ((fe_ix (hu_of hr) (fb_var 3) ((fe_int).b)).b)).b) ((fe_bin ok_mul ((fe_ix (hu_of hr) (fb_var 3) ((fe_int).b)).b) ((fe_bin ok_sub (fb_var 2) (fb_var 4)).b)).b))
      (fss_one (fs_asgZ (ps_set (i := 3) nd rfl (by first | exact Or.inl rfl | exact Or.inr rfl) (fe_tup (fa_cons (fe_var 5) (fa_cons (fe_bin ok_sub (fb_var 2) (fb_var 4)) (fa_nil)))))))
      (fss_nil)))))
      (fss_one (fs_retV (i := 3) (pv 3))))))
/-! lowest_average -/
noncomputable def lb1_lowest_average (A : Ad) : Env → Option Out :=
 fSeq (fAsgZ 4 (fCall (g_steepest A) (fCons (fVar 1) (fCons (fVar 3) (fNil)))))
 (fIfS (fT (fOp oLt (fOp oMul (fIx (fVarB 4) (fC (.int 0))) (fIx (fVarB 2) (fC (.int 1)))) (fOp oMul (fIx (fVarB 2) (fC (.int 0))) (fIx (fVarB 4) (fC (.int 1))))))
 (fAsgZ 2 (fVar 4))
 (fNext))
noncomputable def wt1_lowest_average (A : Ad) : Env → Option (R Bool) :=
 fT (fOp oGt (fVarB 6) (fC (.int 0)))
noncomputable def wb1_lowest_average (A : Ad) : Env → Option Out :=
 fPar 5 6 (fCons (fVar 6) (fCons (fOp oMod (fVarB 5) (fVarB 6)) (fNil)))
noncomputable def b_lowest_average (A : Ad) : Env → Option Out :=
 fSeq (fAsgZ 1 (fCall (g_walks A) (fCons (fVar 0) (fNil))))
 (fSeq (fAsgZ 2 (fCall (g_steepest A) (fCons (fVar 1) (fCons (fC (.int 0)) (fNil)))))
 (fSeq (fFor (fRng rng2 (fConsB (fC (.int 1)) (fConsB (fCB gLen (fConsB (fVarB 0) (fNil))) (fNil)))) (gdN 3)
 (lb1_lowest_average A))
 (fSeq (fPar 5 6 (fCons (fCB gAbs (fConsB (fIx (fVarB 2) (fC (.int 0))) (fNil))) (fCons (fIx (fVarB 2) (fC (.int 1))) (fNil))))
 (fSeq (fWhile (wt1_lowest_average A)
 (wb1_lowest_average A))
 (fRet (fTup (fCons (fOp oDiv (fIx (fVarB 2) (fC (.int 0))) (fVarB 5)) (fCons (fOp oDiv (fIx (fVarB 2) (fC (.int 1))) (fVarB 5)) (fNil)))))))))
noncomputable def g_lowest_average (A : Ad) : List D → Option (R Sl) := gDef 1 7 (b_lowest_average A)
theorem ok_lowest_average (T : Txt K mg A) : FnOk P w K mg base (L2.CX P w) 3 A.a_lowest_average A.d_lowest_average ["costs"] (spF K (g_lowest_average A)) :=
 def_ok T.F_lowest_average sc_lowest_average fun cdv A0 outer s H E hr => by
  have nd := sc_lowest_average.nd
  exact (fss_cons (fs_asgZ (ps_set (i := 1) nd rfl (by first | exact Or.inl rfl | exact Or.inr rfl) (fe_call (ok_walks T) (hr.mono (by decide)) T.m_walks T.F_walks.kp (bd_walks T) passDef (fa_cons (fe_var 0) (fa_nil)))))
      (fss_cons (fs_asgZ (ps_set (i := 2) nd rfl (by first | exact Or.inl rfl | exact Or.inr rfl) (fe_call (ok_steepest T) (hr.mono (by decide)) T.m_steepest T.F_steepest.kp (bd_steepest T) passDef (fa_cons (fe_var 1) (fa_cons (fe_int) (fa_nil))))))
      (fss_cons (fs_for (passes_of rfl) rfl (fi_range2 T.b_range (fab_cons ((fe_int).b) (fab_cons ((fe_cb ok_len T.b_len PySem.boot_len (fab_cons (fb_var 0) (fab_nil))).b) (fab_nil)))) (pg_name (i := 3) nd rfl (by first | exact Or.inl rfl | exact Or.inr rfl)) gdN_ok
      (fss_cons (fs_asgZ (ps_set (i := 4) nd rfl (by first | exact Or.inl rfl | exact Or.inr rfl) (fe_call (ok_steepest T) (hr.mono (by decide)) T.m_steepest T.F_steepest.kp (bd_steepest T) passDef (fa_cons (fe_var 1) (fa_cons (fe_var 3) (fa_nil))))))
      (fss_one (fs_if (ft_cmp ok_lt ((fe_bin ok_mul ((fe_ix (hu_of hr) (fb_var 4) ((fe_int).b)).b) ((fe_ix (hu_of hr) (fb_var 2) ((fe_int).b)).b)).b) ((fe_bin ok_mul ((fe_ix (hu_of hr) (fb_var 2) ((fe_int).b)).b) ((fe_ix (hu_of hr) (fb_var 4) ((fe_int).b)).b)).b))
      (fss_one (fs_asgZ (ps_set (i := 2) nd rfl (by first | exact Or.inl rfl | exact Or.inr rfl) (fe_var 4))))
      (fss_nil)))))
      (fss_cons (fs_par (ps_par (i := 5) (j := 6) (by rfl) nd rfl rfl (by decide) rfl rfl (fa_cons (fe_cb ok_abs T.b_abs (by decide +kernel) (fab_cons ((fe_ix (hu_of hr) (fb_var 2) ((fe_int).b)).b) (fab_nil))) (fa_cons (fe_ix (hu_of hr) (fb_var 2) ((fe_int).b)) (fa_nil))) (by rfl)))
      (fss_cons (fs_while (passes_of rfl) (ft_cmp ok_gt (fb_var 6) ((fe_int).b))
      (fss_one (fs_par (ps_par (i := 5) (j := 6) (by rfl) nd rfl rfl (by decide) rfl rfl (fa_cons (fe_var 6) (fa_cons (fe_bin ok_mod (fb_var 5) (fb_var 6)) (fa_nil))) (by rfl)))))
      (fss_one (fs_ret (fe_tup (fa_cons (fe_bin ok_div ((fe_ix (hu_of hr) (fb_var 2) ((fe_int).b)).b) (fb_var 5)) (fa_cons (fe_bin ok_div ((fe_ix (hu_of hr) (fb_var 2) ((fe_int).b)).b) (fb_var 5)) (fa_nil)))))))))))
/-! slopes_of -/
noncomputable def le1_slopes_of (A : Ad) : Env → Option (R Sl) :=
 fOp oSub (fOp oMul (fVarB 2) (fVarB 9)) (fVarB 1)
noncomputable def le2_slopes_of (A : Ad) : Env → Option (R Sl) :=
 fLc (fItB (fVarB 7)) [9] (gdN 9) (fYes) (le1_slopes_of A)
noncomputable def le3_slopes_of (A : Ad) : Env → Option (R Sl) :=
 fC (.int 0)
noncomputable def le4_slopes_of (A : Ad) : Env → Option (R Sl) :=
 fCB gMin2 (fConsB (fIx (fVarB 5) (fVarB 10)) (fConsB (fCall (g_lowest_into A) (fCons (fVar 5) (fCons (fVar 4) (fCons (fVar 10) (fNil))))) (fNil)))
noncomputable def lb1_slopes_of (A : Ad) : Env → Option Out :=
 fAsgZ 5 (fLc (fRng rng1 (fConsB (fVarB 3) (fNil))) [10] (gdN 10) (fYes) (le4_slopes_of A))
noncomputable def b_slopes_of (A : Ad) : Env → Option Out :=
 fSeq (fAsgZ 3 (fCB gLen (fConsB (fVarB 0) (fNil))))
 (fSeq (fAsgZ 4 (fLc (fItB (fVarB 0)) [7] (gdN 7) (fYes) (le2_slopes_of A)))
 (fSeq (fAsgZ 5 (fLc (fRng rng1 (fConsB (fVarB 3) (fNil))) [8] (gdN 8) (fYes) (le3_slopes_of A)))
 (fSeq (fFor (fRng rng1 (fConsB (fVarB 3) (fNil))) (gdN 6)
 (lb1_slopes_of A))
 (fRetV 5))))
noncomputable def g_slopes_of (A : Ad) : List D → Option (R Sl) := gDef 3 11 (b_slopes_of A)
theorem ok_slopes_of (T : Txt K mg A) : FnOk P w K mg base (L2.CX P w) 2 A.a_slopes_of A.d_slopes_of ["costs", "top", "bottom"] (spF K (g_slopes_of A)) :=
 def_ok T.F_slopes_of sc_slopes_of fun cdv A0 outer s H E hr => by
  have nd := sc_slopes_of.nd
  exact (fss_cons (fs_asgZ (ps_set (i := 3) nd rfl (by first | exact Or.inl rfl | exact Or.inr rfl) (fe_cb ok_len T.b_len PySem.boot_len (fab_cons (fb_var 0) (fab_nil)))))
      (fss_cons (fs_asgZ (ps_set (i := 4) nd rfl (by first | exact Or.inl rfl | exact Or.inr rfl) (fe_lc (own := [("row", 7)]) rfl nd (fi_listB (fb_var 0)) (blkOk_by (by kernel_rfl)) (fun _ _ _ _ _ => pg_name (i := 7) nd rfl (by first | exact Or.inl rfl | exact Or.inr rfl)) gdN_ok (fun _ _ _ _ _ => fts_nil) (fun _ _ _ _ _ => fe_lc (own := [("cost", 9)]) rfl nd (fi_listB (fb_var 7)) (blkOk_by (by kernel_rfl)) (fun _ _ _ _ _ => pg_name (i := 9) nd rfl (by first | exact Or.inl rfl | exact Or.inr rfl)) gdN_ok (fun _ _ _ _ _ => fts_nil) (fun _ _ _ _ _ => fe_bin ok_sub ((fe_bin ok_mul (fb_var 2) (fb_var 9)).b) (fb_var 1))))))
      (fss_cons (fs_asgZ (ps_set (i := 5) nd rfl (by first | exact Or.inl rfl | exact Or.inr rfl) (fe_lc (own := [("place", 8)]) rfl nd (fi_range1 T.b_range (fab_cons (fb_var 3) (fab_nil))) (blkOk_by (by kernel_rfl)) (fun _ _ _ _ _ => pg_name (i := 8) nd rfl (by first | exact Or.inl rfl | exact Or.inr rfl)) gdN_ok (fun _ _ _ _ _ => fts_nil) (fun _ _ _ _ _ => fe_int))))
      (fss_cons (fs_for (passes_of rfl) rfl (fi_range1 T.b_range (fab_cons (fb_var 3) (fab_nil))) (pg_name (i := 6) nd rfl (by first | exact Or.inl rfl | exact Or.inr rfl)) gdN_ok
      (fss_one (fs_asgZ (ps_set (i := 5) nd rfl (by first | exact Or.inl rfl | exact Or.inr rfl) (fe_lc (own := [("goal", 10)]) rfl nd (fi_range1 T.b_range (fab_cons (fb_var 3) (fab_nil))) (blkOk_by (by kernel_rfl)) (fun _ _ _ _ _ => pg_name (i := 10) nd rfl (by first | exact Or.inl rfl | exact Or.inr rfl)) gdN_ok (fun _ _ _ _ _ => fts_nil) (fun _ _ _ _ _ => fe_cb (ok_min2 rfl) T.b_min (by decide +kernel) (fab_cons ((fe_ix (hu_of hr) (fb_var 5) (fb_var 10)).b) (fab_cons ((fe_call (ok_lowest_into T) (hr.mono (by decide)) T.m_lowest_into T.F_lowest_into.kp (bd_lowest_into T) passAt0 (fa_cons (fe_var 5) (fa_cons (fe_var 4) (fa_cons (fe_var 10) (fa_nil))))).b) (fab_nil)))))))))
      (fss_one (fs_retV (i := 5) (pv 5)))))))
/-! loop_of -/
noncomputable def le1_loop_of (A : Ad) : Env → Option (R Sl) :=
 fIx (fIx (fVarB 0) (fVarB 4)) (fVarB 5)
noncomputable def lt1_loop_of (A : Ad) : Env → Option (R Bool) :=
 fT (fCB gAny (fConsB (fLc (fItB (fVarB 1)) [5] (gdN 5) (fYes) (le1_loop_of A)) (fNil)))
noncomputable def le2_loop_of (A : Ad) : Env → Option (R Sl) :=
 fVar 4
noncomputable def wt1_loop_of (A : Ad) : Env → Option (R Bool) :=
 fT (fOp oLt (fCB gLen (fConsB (fVarB 1) (fNil))) (fVarB 2))
noncomputable def wb1_loop_of (A : Ad) : Env → Option Out :=
 fSeq (fAsgZ 2 (fCB gLen (fConsB (fVarB 1) (fNil))))
 (fAsgZ 1 (fLc (fItB (fVarB 1)) [4] (gdN 4) (lt1_loop_of A) (le2_loop_of A)))
noncomputable def lt2_loop_of (A : Ad) : Env → Option (R Bool) :=
 fT (fIx (fIx (fVarB 0) (fVarB 4)) (fVarB 5))
noncomputable def le3_loop_of (A : Ad) : Env → Option (R Sl) :=
 fVar 5
noncomputable def wt2_loop_of (A : Ad) : Env → Option (R Bool) :=
 fT (fInD true (fVarB 4) (fVarB 3))
noncomputable def wb2_loop_of (A : Ad) : Env → Option Out :=
 fSeq (fApp 3 (fVar 4))
 (fAsgZ 4 (fIx (fLc (fItB (fVarB 1)) [5] (gdN 5) (lt2_loop_of A) (le3_loop_of A)) (fC (.int 0))))
noncomputable def b_loop_of (A : Ad) : Env → Option Out :=
 fSeq (fAsgZ 1 (fListRange (fCB gLen (fConsB (fVarB 0) (fNil)))))
 (fSeq (fAsgZ 2 (fOp oAddA (fCB gLen (fConsB (fVarB 1) (fNil))) (fC (.int 1))))
 (fSeq (fWhile (wt1_loop_of A)
 (wb1_loop_of A))
 (fSeq (fAsg 3 (fLst (fNil)))
 (fSeq (fAsgZ 4 (fIx (fVarB 1) (fC (.int 0))))
 (fSeq (fWhile (wt2_loop_of A)
 (wb2_loop_of A))
 (fRet (fSlice (fVarB 3) (fPart (fIndex (fVarB 3) (fVarB 4))) (fNoPart))))))))
noncomputable def g_loop_of (A : Ad) : List D → Option (R Sl) := gDef 1 6 (b_loop_of A)
theorem ok_loop_of (T : Txt K mg A) : FnOk P w K mg base (L2.CX P w) 1 A.a_loop_of A.d_loop_of ["tight"] (spF K (g_loop_of A)) :=
 def_ok T.F_loop_of sc_loop_of fun cdv A0 outer s H E hr => by
  have nd := sc_loop_of.nd
  exact (fss_cons (fs_asgZ (ps_set (i := 1) nd rfl (by first | exact Or.inl rfl | exact Or.inr rfl) (fe_listRange rfl T.b_list T.b_range ((fe_cb ok_len T.b_len PySem.boot_len (fab_cons (fb_var 0) (fab_nil))).b))))
      (fss_cons (fs_asgZ (ps_set (i := 2) nd rfl (by first | exact Or.inl rfl | exact Or.inr rfl) (fe_bin ok_addA ((fe_cb ok_len T.b_len PySem.boot_len (fab_cons (fb_var 1) (fab_nil))).b) ((fe_int).b))))
      (fss_cons (fs_while (passes_of rfl) (ft_cmp ok_lt ((fe_cb ok_len T.b_len PySem.boot_len (fab_cons (fb_var 1) (fab_nil))).b) (fb_var 2))
      (fss_cons (fs_asgZ (ps_set (i := 2) nd rfl (by first | exact Or.inl rfl | exact Or.inr rfl) (fe_cb ok_len T.b_len PySem.boot_len (fab_cons (fb_var 1) (fab_nil)))))
      (fss_one (fs_asgZ (ps_set (i := 1) nd rfl (by first | exact Or.inl rfl | exact Or.inr rfl) (fe_lc (own := [("place", 4)]) rfl nd (fi_listB (fb_var 1)) (blkOk_by (by kernel_rfl)) (fun _ _ _ _ _ => pg_name (i := 4) nd rfl (by first | exact Or.inl rfl | exact Or.inr rfl)) gdN_ok (fun _ _ _ _ _ => fts_one (ft_val (fe_cb (ok_any rfl) T.b_any (by decide +kernel) (fab_cons ((fe_lc (own := [("goal", 5)]) rfl nd (fi_listB (fb_var 1)) (blkOk_by (by kernel_rfl)) (fun _ _ _ _ _ => pg_name (i := 5) nd rfl (by first | exact Or.inl rfl | exact Or.inr rfl)) gdN_ok (fun _ _ _ _ _ => fts_nil) (fun _ _ _ _ _ => fe_ix (hu_of hr) ((fe_ix (hu_of hr) (fb_var 0) (fb_var 4)).b) (fb_var 5))).b) (fab_nil))))) (fun _ _ _ _ _ => fe_var 4)))))))
      (fss_cons (fs_asg (ps_set (i := 3) nd rfl (by first | exact Or.inl rfl | exact Or.inr rfl) (fe_lst (fa_nil))))
      (fss_cons (fs_asgZ (ps_set (i := 4) nd rfl (by first | exact Or.inl rfl | exact Or.inr rfl) (fe_ix (hu_of hr) (fb_var 1) ((fe_int).b))))
      (fss_cons (fs_while (passes_of rfl) (ft_notin (hu_of hr) (fb_var 4) (fb_var 3))
      (fss_cons (fs_app (i := 3) (ps_expr (pe_bm PySem.F.plainAttrs_list PySem.F.slot_list_append PySem.F.type_list_append mt_append (pv 3) (pa_cons (fe_var 4) pa_nil))))
      (fss_one (fs_asgZ (ps_set (i := 4) nd rfl (by first | exact Or.inl rfl | exact Or.inr rfl) (fe_ix (hu_of hr) ((fe_lc (own := [("goal", 5)]) rfl nd (fi_listB (fb_var 1)) (blkOk_by (by kernel_rfl)) (fun _ _ _ _ _ => pg_name (i := 5) nd rfl (by first | exact Or.inl rfl | exact Or.inr rfl)) gdN_ok (fun _ _ _ _ _ => fts_one (ft_val (fe_ix (hu_of hr) ((fe_ix (hu_of hr) (fb_var 0) (fb_var 4)).b) (fb_var 5)))) (fun _ _ _ _ _ => fe_var 5)).b) ((fe_int).b)))))))
      (fss_one (fs_ret (fe_slice (fb_var 3) (fo_some ((fe_index (pe_bm PySem.F.plainAttrs_list PySem.F.slot_list_index PySem.F.type_list_index mt_index (fb_var 3) (pa_cons (fb_var 4) pa_nil))).b)) (fo_none))))))))))
/-! long_run -/
noncomputable def le1_long_run (A : Ad) : Env → Option (R Sl) :=
 fCall (g_lows_of A) (fCons (fVar 7) (fNil))
noncomputable def le2_long_run (A : Ad) : Env → Option (R Sl) :=
 fOp oEqA (fOp oSub (fOp oAddA (fOp oMul (fVarB 6) (fIx (fVarB 7) (fVarB 8))) (fIx (fVarB 2) (fVarB 4))) (fIx (fVarB 2) (fVarB 8))) (fVarB 5)
noncomputable def lb1_long_run (A : Ad) : Env → Option Out :=
 fSeq (fAsgZ 7 (fIx (fVarB 1) (fVarB 4)))
 (fApp 3 (fLc (fRng rng1 (fConsB (fCB gLen (fConsB (fVarB 7) (fNil))) (fNil))) [8] (gdN 8) (fYes) (le2_long_run A)))
noncomputable def b_long_run (A : Ad) : Env → Option Out :=
 fSeq (fAsgZ 1 (fLc (fItB (fCall (g_step_table A) (fCons (fVar 0) (fNil)))) [7] (gdN 7) (fYes) (le1_long_run A)))
 (fSeq (fAsgG (gdT2 5 6) (fCall (g_lowest_average A) (fCons (fVar 1) (fNil))))
 (fSeq (fAsgZ 2 (fCall (g_slopes_of A) (fCons (fVar 1) (fCons (fVar 5) (fCons (fVar 6) (fNil))))))
 (fSeq (fAsg 3 (fLst (fNil)))
 (fSeq (fFor (fRng rng1 (fConsB (fCB gLen (fConsB (fVarB 1) (fNil))) (fNil))) (gdN 4)
 (lb1_long_run A))
 (fFrz 3 (fRet (fTup (fCons (fVar 5) (fCons (fVar 6) (fCons (fCall (g_loop_of A) (fCons (fVar 3) (fNil))) (fCons (fVar 2) (fNil))))))))))))
noncomputable def g_long_run (A : Ad) : List D → Option (R Sl) := gDef 1 9 (b_long_run A)
theorem ok_long_run (T : Txt K mg A) : FnOk P w K mg base (L2.CX P w) 7 A.a_long_run A.d_long_run ["pattern"] (spF K (g_long_run A)) :=
 def_ok T.F_long_run sc_long_run fun cdv A0 outer s H E hr => by
  have nd := sc_long_run.nd
  exact (fss_cons (fs_asgZ (fs_setLc (i := 1) (own := [("row", 7)]) rfl nd rfl rfl (sw_true rfl rfl rfl (by decide +kernel)) (fi_listB ((fe_call (ok_step_table T) (hr.mono (by decide)) T.m_step_table T.F_step_table.kp (bd_step_table T) passDef (fa_cons (fe_var 0) (fa_nil))).b)) (blkOk_by (by kernel_rfl)) (fun _ _ _ _ _ => pg_name (i := 7) nd rfl (by first | exact Or.inl rfl | exact Or.inr rfl)) gdN_ok (fun _ _ _ _ _ => fts_nil) (fun _ _ _ _ _ => fe_call (ok_lows_of T) (hr.mono (by decide)) T.m_lows_of T.F_lows_of.kp (bd_lows_of T) passAt0 (fa_cons (fe_var 7) (fa_nil)))))
      (fss_cons (fs_asgG (ps_asg (fe_call (ok_lowest_average T) (hr.mono (by decide)) T.m_lowest_average T.F_lowest_average.kp (bd_lowest_average T) passDef (fa_cons (fe_var 1) (fa_nil))) (pg_tup rfl (pgs_cons (pg_name (i := 5) nd rfl (by first | exact Or.inl rfl | exact Or.inr rfl)) (pgs_cons (pg_name (i := 6) nd rfl (by first | exact Or.inl rfl | exact Or.inr rfl)) (pgs_nil))))) gdT2_ok)
      (fss_cons (fs_asgZ (ps_set (i := 2) nd rfl (by first | exact Or.inl rfl | exact Or.inr rfl) (fe_call (ok_slopes_of T) (hr.mono (by decide)) T.m_slopes_of T.F_slopes_of.kp (bd_slopes_of T) passDef (fa_cons (fe_var 1) (fa_cons (fe_var 5) (fa_cons (fe_var 6) (fa_nil)))))))
      (fss_cons (fs_asg (ps_set (i := 3) nd rfl (by first | exact Or.inl rfl | exact Or.inr rfl) (fe_lst (fa_nil))))
      (fss_cons (fs_for (passes_of rfl) rfl (fi_range1 T.b_range (fab_cons ((fe_cb ok_len T.b_len PySem.boot_len (fab_cons (fb_var 1) (fab_nil))).b) (fab_nil))) (pg_name (i := 4) nd rfl (by first | exact Or.inl rfl | exact Or.inr rfl)) gdN_ok
      (fss_cons (fs_asgZ (ps_set (i := 7) nd rfl (by first | exact Or.inl rfl | exact Or.inr rfl) (fe_ix (hu_of hr) (fb_var 1) (fb_var 4))))
      (fss_one (fs_app (i := 3) (ps_expr (pe_bm PySem.F.plainAttrs_list PySem.F.slot_list_append PySem.F.type_list_append mt_append (pv 3) (pa_cons (fe_lc (own := [("goal", 8)]) rfl nd (fi_range1 T.b_range (fab_cons ((fe_cb ok_len T.b_len PySem.boot_len (fab_cons (fb_var 7) (fab_nil))).b) (fab_nil))) (blkOk_by (by kernel_rfl)) (fun _ _ _ _ _ => pg_name (i := 8) nd rfl (by first | exact Or.inl rfl | exact Or.inr rfl)) gdN_ok (fun _ _ _ _ _ => fts_nil) (fun _ _ _ _ _ => fe_cmp (ok_eqA hr.units) ((fe_bin ok_sub ((fe_bin ok_addA ((fe_bin ok_mul (fb_var 6) ((fe_ix (hu_of hr) (fb_var 7) (fb_var 8)).b)).b) ((fe_ix (hu_of hr) (fb_var 2) (fb_var 4)).b)).b) ((fe_ix (hu_of hr) (fb_var 2) (fb_var 8)).b)).b) (fb_var 5))) pa_nil)))))))
      (fss_one (fs_frz (i := 3) (fs_ret (fe_tup (fa_cons (fe_var 5) (fa_cons (fe_var 6) (fa_cons (fe_call (ok_loop_of T) (hr.mono (by decide)) T.m_loop_of T.F_loop_of.kp (bd_loop_of T) passDef (fa_cons (fe_var 3) (fa_nil))) (fa_cons (fe_var 2) (fa_nil))))))))))))))
/-! _law_cell -/
noncomputable def b__law_cell (A : Ad) : Env → Option Out :=
 fSeq (fIfS (fT (fOp oLt (fVarB 1) (fCB gLen (fConsB (fVarB 0) (fNil)))))
 (fRet (fIx (fVarB 0) (fVarB 1)))
 (fNext))
 (fRet (fC (.int 0)))
noncomputable def g__law_cell (A : Ad) : List D → Option (R Sl) := gDef 2 2 (b__law_cell A)
theorem ok__law_cell (T : Txt K mg A) : FnOk P w K mg base (L2.CX P w) 1 A.a__law_cell A.d__law_cell ["script", "k"] (spF K (g__law_cell A)) :=
 def_ok T.F__law_cell sc__law_cell fun cdv A0 outer s H E hr => by
  have nd := sc__law_cell.nd
  exact (fss_cons (fs_if (ft_cmp ok_lt (fb_var 1) ((fe_cb ok_len T.b_len PySem.boot_len (fab_cons (fb_var 0) (fab_nil))).b))
      (fss_one (fs_ret (fe_ix (hu_of hr) (fb_var 0) (fb_var 1))))
      (fss_nil))
      (fss_one (fs_ret (fe_int))))
/-! _law_whole -/
noncomputable def b__law_whole (A : Ad) : Env → Option Out :=
 fRet (fAndV (fCB gIsi (fConsB (fVarB 0) (fConsB (fC (.cls (.ty "int"))) (fNil)))) (fNotV (fCB gIsi (fConsB (fVarB 0) (fConsB (fC (.cls (.ty "bool"))) (fNil))))))
noncomputable def g__law_whole (A : Ad) : List D → Option (R Sl) := gDef 1 1 (b__law_whole A)
theorem ok__law_whole (T : Txt K mg A) : FnOk P w K mg base (L2.CX P w) 1 A.a__law_whole A.d__law_whole ["found"] (spF K (g__law_whole A)) :=
 def_ok T.F__law_whole sc__law_whole fun cdv A0 outer s H E hr => by
  have nd := sc__law_whole.nd
  exact (fss_one (fs_ret (fe_and (fe_cb ok_isi T.b_isinstance (by decide +kernel) (fab_cons (fb_var 0) (fab_cons ((fe_ty T.b_int (by decide +kernel)).b) (fab_nil)))) (fe_one (fe_not (fe_cb ok_isi T.b_isinstance (by decide +kernel) (fab_cons (fb_var 0) (fab_cons ((fe_ty T.b_bool (by decide +kernel)).b) (fab_nil)))))))))
/-! _law_pair -/
noncomputable def b__law_pair (A : Ad) : Env → Option Out :=
 fSeq (fIfS (fOr (fNot (fT (fCB gIsi (fConsB (fVarB 0) (fConsB (fC (.cls (.ty "tuple"))) (fNil)))))) (fT (fOp oNeA (fCB gLen (fConsB (fVarB 0) (fNil))) (fC (.int 2)))))
 (fRet (fC (.bl false)))
 (fNext))
 (fRet (fAndV (fCall (g__law_whole A) (fCons (fIx (fVarB 0) (fC (.int 0))) (fNil))) (fCall (g__law_whole A) (fCons (fIx (fVarB 0) (fC (.int 1))) (fNil)))))
noncomputable def g__law_pair (A : Ad) : List D → Option (R Sl) := gDef 1 1 (b__law_pair A)
theorem ok__law_pair (T : Txt K mg A) : FnOk P w K mg base (L2.CX P w) 2 A.a__law_pair A.d__law_pair ["found"] (spF K (g__law_pair A)) :=
 def_ok T.F__law_pair sc__law_pair fun cdv A0 outer s H E hr => by
  have nd := sc__law_pair.nd
  exact (fss_cons (fs_if ((fw_or (ft_not (ft_val (fe_cb ok_isi T.b_isinstance (by decide +kernel) (fab_cons (fb_var 0) (fab_cons ((fe_ty T.b_tuple (by decide +kernel)).b) (fab_nil)))))) (fw_or1 (ft_cmp (ok_neA hr.units) ((fe_cb ok_len T.b_len PySem.boot_len (fab_cons (fb_var 0) (fab_nil))).b) ((fe_int).b)))).t)
      (fss_one (fs_ret (fe_bl)))
      (fss_nil))
      (fss_one (fs_ret (fe_and (fe_call (ok__law_whole T) (hr.mono (by decide)) T.m__law_whole T.F__law_whole.kp (bd__law_whole T) passDef (fa_cons (fe_ix (hu_of hr) (fb_var 0) ((fe_int).b)) (fa_nil))) (fe_one (fe_call (ok__law_whole T) (hr.mono (by decide)) T.m__law_whole T.F__law_whole.kp (bd__law_whole T) passDef (fa_cons (fe_ix (hu_of hr) (fb_var 0) ((fe_int).b)) (fa_nil))))))))
/-! _law_strength -/
noncomputable def b__law_strength (A : Ad) : Env → Option Out :=
 fSeq (fIfS (fT (fOp oEqA (fVarB 1) (fC (.int 0))))
 (fRet (fOp oSub (fOp oMod (fVarB 0) (fOp oAddA (fOp oMul (fC (.int 2)) (fOp oPow (fC (.int 10)) (fC (.int 30)))) (fC (.int 1)))) (fOp oPow (fC (.int 10)) (fC (.int 30)))))
 (fNext))
 (fRet (fOp oSub (fOp oMod (fVarB 0) (fOp oAddA (fOp oMul (fC (.int 2)) (fVarB 1)) (fC (.int 1)))) (fVarB 1)))
noncomputable def g__law_strength (A : Ad) : List D → Option (R Sl) := gDef 2 2 (b__law_strength A)
theorem ok__law_strength (T : Txt K mg A) : FnOk P w K mg base (L2.CX P w) 1 A.a__law_strength A.d__law_strength ["cell", "mode"] (spF K (g__law_strength A)) :=
 def_ok T.F__law_strength sc__law_strength fun cdv A0 outer s H E hr => by
  have nd := sc__law_strength.nd
  exact (fss_cons (fs_if (ft_cmp (ok_eqA hr.units) (fb_var 1) ((fe_int).b))
      (fss_one (fs_ret (fe_bin ok_sub ((fe_bin ok_mod (fb_var 0) ((fe_bin ok_addA ((fe_bin ok_mul ((fe_int).b) ((fe_bin ok_pow ((fe_int).b) ((fe_int).b)).b)).b) ((fe_int).b)).b)).b) ((fe_bin ok_pow ((fe_int).b) ((fe_int).b)).b))))
      (fss_nil))
      (fss_one (fs_ret (fe_bin ok_sub ((fe_bin ok_mod (fb_var 0) ((fe_bin ok_addA ((fe_bin ok_mul ((fe_int).b) (fb_var 1)).b) ((fe_int).b)).b)).b) (fb_var 1)))))
/-! _law_pattern -/
noncomputable def le1__law_pattern (A : Ad) : Env → Option (R Sl) :=
 fIx (fVarB 0) (fVarB 9)
noncomputable def lb1__law_pattern (A : Ad) : Env → Option Out :=
 fSeq (fAsgZ 8 (fCB gSum (fConsB (fLc (fRng rng3 (fConsB (fOp oAddA (fC (.int 1)) (fVarB 6)) (fConsB (fCB gLen (fConsB (fVarB 0) (fNil))) (fConsB (fVarB 4) (fNil))))) [9] (gdN 9) (fYes) (le1__law_pattern A)) (fNil))))
 (fApp 5 (fCall (g__law_strength A) (fCons (fVar 8) (fCons (fVar 3) (fNil)))))
noncomputable def lb2__law_pattern (A : Ad) : Env → Option Out :=
 fApp 7 (fTup (fCons (fSlice (fVarB 5) (fPart (fVarB 6)) (fPart (fOp oSub (fOp oAddA (fVarB 6) (fVarB 1)) (fC (.int 1))))) (fCons (fSlice (fVarB 5) (fPart (fOp oSub (fOp oAddA (fVarB 6) (fVarB 1)) (fC (.int 1)))) (fPart (fOp oSub (fOp oAddA (fVarB 6) (fOp oMul (fC (.int 2)) (fVarB 1))) (fC (.int 1))))) (fNil))))
noncomputable def b__law_pattern (A : Ad) : Env → Option Out :=
 fSeq (fAsgZ 4 (fOp oMul (fVarB 2) (fOp oSub (fOp oMul (fC (.int 2)) (fVarB 1)) (fC (.int 1)))))
 (fSeq (fAsg 5 (fLst (fNil)))
 (fSeq (fFor (fRng rng1 (fConsB (fVarB 4) (fNil))) (gdN 6)
 (lb1__law_pattern A))
 (fSeq (fAsg 7 (fLst (fNil)))
 (fSeq (fFor (fRng rng3 (fConsB (fC (.int 0)) (fConsB (fVarB 4) (fConsB (fOp oSub (fOp oMul (fC (.int 2)) (fVarB 1)) (fC (.int 1))) (fNil))))) (gdN 6)
 (lb2__law_pattern A))
 (fRetV 7)))))
noncomputable def g__law_pattern (A : Ad) : List D → Option (R Sl) := gDef 4 10 (b__law_pattern A)
theorem ok__law_pattern (T : Txt K mg A) : FnOk P w K mg base (L2.CX P w) 2 A.a__law_pattern A.d__law_pattern ["script", "rows", "period", "mode"] (spF K (g__law_pattern A)) :=
 def_ok T.F__law_pattern sc__law_pattern fun cdv A0 outer s H E hr => by
  have nd := sc__law_pattern.nd
  exact (fss_cons (fs_asgZ (ps_set (i := 4) nd rfl (by first | exact Or.inl rfl | exact Or.inr rfl) (fe_bin ok_mul (fb_var 2) ((fe_bin ok_sub ((fe_bin ok_mul ((fe_int).b) (fb_var 1)).b) ((fe_int).b)).b))))
      (fss_cons (fs_asg (ps_set (i := 5) nd rfl (by first | exact Or.inl rfl | exact Or.inr rfl) (fe_lst (fa_nil))))
      (fss_cons (fs_for (passes_of rfl) rfl (fi_range1 T.b_range (fab_cons (fb_var 4) (fab_nil))) (pg_name (i := 6) nd rfl (by first | exact Or.inl rfl | exact Or.inr rfl)) gdN_ok
      (fss_cons (fs_asgZ (ps_set (i := 8) nd rfl (by first | exact Or.inl rfl | exact Or.inr rfl) (fe_cb (ok_sum rfl) T.b_sum (by decide +kernel) (fab_cons ((fe_lc (own := [("j", 9)]) rfl nd (fi_range3 T.b_range (fab_cons ((fe_bin ok_addA ((fe_int).b) (fb_var 6)).b) (fab_cons ((fe_cb ok_len T.b_len PySem.boot_len (fab_cons (fb_var 0) (fab_nil))).b) (fab_cons (fb_var 4) (fab_nil))))) (blkOk_by (by kernel_rfl)) (fun _ _ _ _ _ => pg_name (i := 9) nd rfl (by first | exact Or.inl rfl | exact Or.inr rfl)) gdN_ok (fun _ _ _ _ _ => fts_nil) (fun _ _ _ _ _ => fe_ix (hu_of hr) (fb_var 0) (fb_var 9))).b) (fab_nil)))))
      (fss_one (fs_app (i := 5) (ps_expr (pe_bm PySem.F.plainAttrs_list PySem.F.slot_list_append PySem.F.type_list_append mt_append (pv 5) (pa_cons (fe_call (ok__law_strength T) (hr.mono (by decide)) T.m__law_strength T.F__law_strength.kp (bd__law_strength T) passDef (fa_cons (fe_var 8) (fa_cons (fe_var 3) (fa_nil)))) pa_nil)))))))
      (fss_cons (fs_asg (ps_set (i := 7) nd rfl (by first | exact Or.inl rfl | exact Or.inr rfl) (fe_lst (fa_nil))))
      (fss_cons (fs_for (passes_of rfl) rfl (fi_range3 T.b_range (fab_cons ((fe_int).b) (fab_cons (fb_var 4) (fab_cons ((fe_bin ok_sub ((fe_bin ok_mul ((fe_int).b) (fb_var 1)).b) ((fe_int).b)).b) (fab_nil))))) (pg_name (i := 6) nd rfl (by first | exact Or.inl rfl | exact Or.inr rfl)) gdN_ok
      (fss_one (fs_app (i := 7) (ps_expr (pe_bm PySem.F.plainAttrs_list PySem.F.slot_list_append PySem.F.type_list_append mt_append (pv 7) (pa_cons (fe_tup (fa_cons (fe_slice (fb_var 5) (fo_some (fb_var 6)) (fo_some ((fe_bin ok_sub ((fe_bin ok_addA (fb_var 6) (fb_var 1)).b) ((fe_int).b)).b))) (fa_cons (fe_slice (fb_var 5) (fo_some ((fe_bin ok_sub ((fe_bin ok_addA (fb_var 6) (fb_var 1)).b) ((fe_int).b)).b)) (fo_some ((fe_bin ok_sub ((fe_bin ok_addA (fb_var 6) ((fe_bin ok_mul ((fe_int).b) (fb_var 1)).b)).b) ((fe_int).b)).b))) (fa_nil)))) pa_nil))))))
      (fss_one (fs_retV (i := 7) (pv 7))))))))
/-! _law_copy -/
noncomputable def le1__law_copy (A : Ad) : Env → Option (R Sl) :=
 fTup (fCons (fCB gList (fConsB (fIx (fVarB 1) (fC (.int 0))) (fNil))) (fCons (fCB gList (fConsB (fIx (fVarB 1) (fC (.int 1))) (fNil))) (fNil)))
noncomputable def b__law_copy (A : Ad) : Env → Option Out :=
 fRet (fLc (fItB (fVarB 0)) [1] (gdN 1) (fYes) (le1__law_copy A))
noncomputable def g__law_copy (A : Ad) : List D → Option (R Sl) := gDef 1 2 (b__law_copy A)
theorem ok__law_copy (T : Txt K mg A) : FnOk P w K mg base (L2.CX P w) 1 A.a__law_copy A.d__law_copy ["pattern"] (spF K (g__law_copy A)) :=
 def_ok T.F__law_copy sc__law_copy fun cdv A0 outer s H E hr => by
  have nd := sc__law_copy.nd
  exact (fss_one (fs_ret (fe_lc (own := [("column", 1)]) rfl nd (fi_listB (fb_var 0)) (blkOk_by (by kernel_rfl)) (fun _ _ _ _ _ => pg_name (i := 1) nd rfl (by first | exact Or.inl rfl | exact Or.inr rfl)) gdN_ok (fun _ _ _ _ _ => fts_nil) (fun _ _ _ _ _ => fe_tup (fa_cons (fe_cbT ok_list T.b_list (by decide +kernel) (fab_cons ((fe_ix (hu_of hr) (fb_var 1) ((fe_int).b)).b) (fab_nil))) (fa_cons (fe_cbT ok_list T.b_list (by decide +kernel) (fab_cons ((fe_ix (hu_of hr) (fb_var 1) ((fe_int).b)).b) (fab_nil))) (fa_nil)))))))
/-! law -/
noncomputable def le1_law (A : Ad) : Env → Option (R Sl) :=
 fCall (g__law_whole A) (fCons (fVar 15) (fNil))
noncomputable def le2_law (A : Ad) : Env → Option (R Sl) :=
 fCB gAbs (fConsB (fVarB 14) (fNil))
noncomputable def lb1_law (A : Ad) : Env → Option Out :=
 fSeq (fAsgZ 11 (fOp oAddA (fOp oMul (fOp oAddA (fVarB 5) (fVarB 10)) (fVarB 3)) (fC (.int 1))))
 (fSeq (fAsgZ 12 (fCall (g_strip_least A) (fCons (fCall (g__law_copy A) (fCons (fVar 4) (fNil))) (fCons (fVar 11) (fCons (fOp oPow (fC (.int 10)) (fC (.int 9))) (fNil))))))
 (fSeq (fIfS (fOr (fNot (fT (fCall (g__law_pair A) (fCons (fVar 12) (fNil))))) (fT (fOp oLt (fIx (fVarB 12) (fC (.int 0))) (fVarB 9))))
 (fRet (fC (.bl false)))
 (fNext))
 (fSeq (fAsgZ 13 (fOp oSub (fOp oMul (fIx (fVarB 6) (fC (.int 1))) (fIx (fVarB 12) (fC (.int 0)))) (fOp oMul (fIx (fVarB 6) (fC (.int 0))) (fOp oAddA (fVarB 5) (fVarB 10)))))
 (fSeq (fIfS (fOr (fT (fOp oLt (fVarB 13) (fOp oSub (fC (.int 0)) (fVarB 7)))) (fT (fOp oGt (fVarB 13) (fOp oAddA (fVarB 7) (fVarB 8)))))
 (fRet (fC (.bl false)))
 (fNext))
 (fAsgZ 9 (fIx (fVarB 12) (fC (.int 0))))))))
noncomputable def b_law (A : Ad) : Env → Option Out :=
 fSeq (fAsgZ 1 (fCall (g__law_cell A) (fCons (fVar 0) (fCons (fC (.int 0)) (fNil)))))
 (fSeq (fAsgZ 2 (fIx (fLst (fCons (fC (.int 1)) (fCons (fC (.int 2)) (fCons (fC (.int 1)) (fCons (fC (.int 2)) (fCons (fC (.int 1)) (fCons (fC (.int 3)) (fNil)))))))) (fOp oMod (fVarB 1) (fC (.int 6)))))
 (fSeq (fAsgZ 3 (fOp oAddA (fC (.int 1)) (fOp oMod (fOp oDiv (fVarB 1) (fC (.int 6))) (fIx (fLst (fCons (fC (.int 6)) (fCons (fC (.int 6)) (fCons (fC (.int 2)) (fNil))))) (fOp oSub (fVarB 2) (fC (.int 1)))))))
 (fSeq (fAsgZ 4 (fCall (g__law_pattern A) (fCons (fVar 0) (fCons (fVar 2) (fCons (fVar 3) (fCons (fOp oMod (fOp oDiv (fVarB 1) (fC (.int 36))) (fC (.int 3))) (fNil)))))))
 (fSeq (fAsgZ 5 (fOp oMod (fCB gSum (fConsB (fVarB 0) (fNil))) (fIx (fLst (fCons (fOp oPow (fC (.int 10)) (fC (.int 17))) (fCons (fOp oPow (fC (.int 10)) (fC (.int 4))) (fCons (fC (.int 12)) (fNil))))) (fOp oSub (fVarB 2) (fC (.int 1))))))
 (fSeq (fAsgZ 6 (fCall (g_long_run A) (fCons (fCall (g__law_copy A) (fCons (fVar 4) (fNil))) (fNil))))
 (fSeq (fIfS (fOr (fNot (fT (fCB gIsi (fConsB (fVarB 6) (fConsB (fC (.cls (.ty "tuple"))) (fNil)))))) (fOr (fT (fOp oNeA (fCB gLen (fConsB (fVarB 6) (fNil))) (fC (.int 4)))) (fOr (fNot (fT (fCall (g__law_whole A) (fCons (fIx (fVarB 6) (fC (.int 0))) (fNil))))) (fNot (fT (fCall (g__law_whole A) (fCons (fIx (fVarB 6) (fC (.int 1))) (fNil))))))))
 (fRet (fC (.bl false)))
 (fNext))
 (fSeq (fIfS (fOr (fNot (fT (fCB gIsi (fConsB (fIx (fVarB 6) (fC (.int 3))) (fConsB (fC (.cls (.ty "list"))) (fNil)))))) (fOr (fT (fOp oEqA (fIx (fVarB 6) (fC (.int 3))) (fLst (fNil)))) (fNot (fT (fCB gAll (fConsB (fLc (fItB (fIx (fVarB 6) (fC (.int 3)))) [15] (gdN 15) (fYes) (le1_law A)) (fNil)))))))
 (fRet (fC (.bl false)))
 (fNext))
 (fSeq (fAsgZ 7 (fOp oSub (fCB gMax (fConsB (fIx (fVarB 6) (fC (.int 3))) (fNil))) (fCB gMin (fConsB (fIx (fVarB 6) (fC (.int 3))) (fNil)))))
 (fSeq (fAsgZ 8 (fOp oMul (fIx (fVarB 6) (fC (.int 1))) (fCB gSum (fConsB (fLc (fItB (fIx (fIx (fVarB 4) (fC (.int 0))) (fC (.int 0)))) [14] (gdN 14) (fYes) (le2_law A)) (fNil)))))
 (fSeq (fAsgZ 9 (fC (.int 0)))
 (fSeq (fFor (fRng rng1 (fConsB (fC (.int 3)) (fNil))) (gdN 10)
 (lb1_law A))
 (fRet (fC (.bl true))))))))))))))
noncomputable def g_law (A : Ad) : List D → Option (R Sl) := gDef 1 16 (b_law A)
theorem ok_law (T : Txt K mg A) : FnOk P w K mg base (L2.CX P w) 8 A.a_law A.d_law ["script"] (spF K (g_law A)) :=
 def_ok T.F_law sc_law fun cdv A0 outer s H E hr => by
  have nd := sc_law.nd
  exact (fss_cons (fs_asgZ (ps_set (i := 1) nd rfl (by first | exact Or.inl rfl | exact Or.inr rfl) (fe_call (ok__law_cell T) (hr.mono (by decide)) T.m__law_cell T.F__law_cell.kp (bd__law_cell T) passDef (fa_cons (fe_var 0) (fa_cons (fe_int) (fa_nil))))))
      (fss_cons (fs_asgZ (ps_set (i := 2) nd rfl (by first | exact Or.inl rfl | exact Or.inr rfl) (fe_ix (hu_of hr) ((fe_lst (fa_cons (fe_int) (fa_cons (fe_int) (fa_cons (fe_int) (fa_cons (fe_int) (fa_cons (fe_int) (fa_cons (fe_int) (fa_nil)))))))).b) ((fe_bin ok_mod (fb_var 1) ((fe_int).b)).b))))
      (fss_cons (fs_asgZ (ps_set (i := 3) nd rfl (by first | exact Or.inl rfl | exact Or.inr rfl) (fe_bin ok_addA ((fe_int).b) ((fe_bin ok_mod ((fe_bin ok_div (fb_var 1) ((fe_int).b)).b) ((fe_ix (hu_of hr) ((fe_lst (fa_cons (fe_int) (fa_cons (fe_int) (fa_cons (fe_int) (fa_nil))))).b) ((fe_bin ok_sub (fb_var 2) ((fe_int).b)).b)).b)).b))))
      (fss_cons (fs_asgZ (ps_set (i := 4) nd rfl (by first | exact Or.inl rfl | exact Or.inr rfl) (fe_call (ok__law_pattern T) (hr.mono (by decide)) T.m__law_pattern T.F__law_pattern.kp (bd__law_pattern T) passDef (fa_cons (fe_var 0) (fa_cons (fe_var 2) (fa_cons (fe_var 3) (fa_cons (fe_bin ok_mod ((fe_bin ok_div (fb_var 1) ((fe_int).b)).b) ((fe_int).b)) (fa_nil))))))))
      (fss_cons (fs_asgZ (ps_set (i := 5) nd rfl (by first | exact Or.inl rfl | exact Or.inr rfl) (fe_bin ok_mod ((fe_cb (ok_sum rfl) T.b_sum (by decide +kernel) (fab_cons (fb_var 0) (fab_nil))).b) ((fe_ix (hu_of hr) ((fe_lst (fa_cons (fe_bin ok_pow ((fe_int).b) ((fe_int).b)) (fa_cons (fe_bin ok_pow ((fe_int).b) ((fe_int).b)) (fa_cons (fe_int) (fa_nil))))).b) ((fe_bin ok_sub (fb_var 2) ((fe_int).b)).b)).b))))
      (fss_cons (fs_asgZ (ps_set (i := 6) nd rfl (by first | exact Or.inl rfl | exact Or.inr rfl) (fe_call (ok_long_run T) (hr.mono (by decide)) T.m_long_run T.F_long_run.kp (bd_long_run T) passDef (fa_cons (fe_call (ok__law_copy T) (hr.mono (by decide)) T.m__law_copy T.F__law_copy.kp (bd__law_copy T) passDef (fa_cons (fe_var 4) (fa_nil))) (fa_nil)))))
      (fss_cons (fs_if ((fw_or (ft_not (ft_val (fe_cb ok_isi T.b_isinstance (by decide +kernel) (fab_cons (fb_var 6) (fab_cons ((fe_ty T.b_tuple (by decide +kernel)).b) (fab_nil)))))) (fw_or (ft_cmp (ok_neA hr.units) ((fe_cb ok_len T.b_len PySem.boot_len (fab_cons (fb_var 6) (fab_nil))).b) ((fe_int).b)) (fw_or (ft_not (ft_val (fe_call (ok__law_whole T) (hr.mono (by decide)) T.m__law_whole T.F__law_whole.kp (bd__law_whole T) passDef (fa_cons (fe_ix (hu_of hr) (fb_var 6) ((fe_int).b)) (fa_nil))))) (fw_or1 (ft_not (ft_val (fe_call (ok__law_whole T) (hr.mono (by decide)) T.m__law_whole T.F__law_whole.kp (bd__law_whole T) passDef (fa_cons (fe_ix (hu_of hr) (fb_var 6) ((fe_int).b)) (fa_nil))))))))).t)
      (fss_one (fs_ret (fe_bl)))
      (fss_nil))
      (fss_cons (fs_if ((fw_or (ft_not (ft_val (fe_cb ok_isi T.b_isinstance (by decide +kernel) (fab_cons ((fe_ix (hu_of hr) (fb_var 6) ((fe_int).b)).b) (fab_cons ((fe_ty T.b_list (by decide +kernel)).b) (fab_nil)))))) (fw_or (ft_cmp (ok_eqA hr.units) ((fe_ix (hu_of hr) (fb_var 6) ((fe_int).b)).b) ((fe_lst (fa_nil)).b)) (fw_or1 (ft_not (ft_val (fe_cb (ok_all rfl) T.b_all (by decide +kernel) (fab_cons ((fe_lc (own := [("part", 15)]) rfl nd (fi_listB ((fe_ix (hu_of hr) (fb_var 6) ((fe_int).b)).b)) (blkOk_by (by kernel_rfl)) (fun _ _ _ _ _ => pg_name (i := 15) nd rfl (by first | exact Or.inl rfl | exact Or.inr rfl)) gdN_ok (fun _ _ _ _ _ => fts_nil) (fun _ _ _ _ _ => fe_call (ok__law_whole T) (hr.mono (by decide)) T.m__law_whole T.F__law_whole.kp (bd__law_whole T) passAt0 (fa_cons (fe_var 15) (fa_nil)))).b) (fab_nil)))))))).t)
      (fss_one (fs_ret (fe_bl)))
      (fss_nil))
      (fss_cons (fs_asgZ (ps_set (i := 7) nd rfl (by first | exact Or.inl rfl | exact Or.inr rfl) (fe_bin ok_sub ((fe_cb (ok_max rfl) T.b_max (by decide +kernel) (fab_cons ((fe_ix (hu_of hr) (fb_var 6) ((fe_int).b)).b) (fab_nil))).b) ((fe_cb (ok_min rfl) T.b_min (by decide +kernel) (fab_cons ((fe_ix (hu_of hr) (fb_var 6) ((fe_int).b)).b) (fab_nil))).b))))
      (fss_cons (fs_asgZ (ps_set (i := 8) nd rfl (by first | exact Or.inl rfl | exact Or.inr rfl) (fe_bin ok_mul ((fe_ix (hu_of hr) (fb_var 6) ((fe_int).b)).b) ((fe_cb (ok_sum rfl) T.b_sum (by decide +kernel) (fab_cons ((fe_lc (own := [("strength", 14)]) rfl nd (fi_listB ((fe_ix (hu_of hr) ((fe_ix (hu_of hr) (fb_var 4) ((fe_int).b)).b) ((fe_int).b)).b)) (blkOk_by (by kernel_rfl)) (fun _ _ _ _ _ => pg_name (i := 14) nd rfl (by first | exact Or.inl rfl | exact Or.inr rfl)) gdN_ok (fun _ _ _ _ _ => fts_nil) (fun _ _ _ _ _ => fe_cb ok_abs T.b_abs (by decide +kernel) (fab_cons (fb_var 14) (fab_nil)))).b) (fab_nil))).b))))
      (fss_cons (fs_asgZ (ps_set (i := 9) nd rfl (by first | exact Or.inl rfl | exact Or.inr rfl) (fe_int)))
      (fss_cons (fs_for (passes_of rfl) rfl (fi_range1 T.b_range (fab_cons ((fe_int).b) (fab_nil))) (pg_name (i := 10) nd rfl (by first | exact Or.inl rfl | exact Or.inr rfl)) gdN_ok
      (fss_cons (fs_asgZ (ps_set (i := 11) nd rfl (by first | exact Or.inl rfl | exact Or.inr rfl) (fe_bin ok_addA ((fe_bin ok_mul ((fe_bin ok_addA (fb_var 5) (fb_var 10)).b) (fb_var 3)).b) ((fe_int).b))))
      (fss_cons (fs_asgZ (ps_set (i := 12) nd rfl (by first | exact Or.inl rfl | exact Or.inr rfl) (fe_call (ok_strip_least T) (hr.mono (by decide)) T.m_strip_least T.F_strip_least.kp (bd_strip_least T) passDef (fa_cons (fe_call (ok__law_copy T) (hr.mono (by decide)) T.m__law_copy T.F__law_copy.kp (bd__law_copy T) passDef (fa_cons (fe_var 4) (fa_nil))) (fa_cons (fe_var 11) (fa_cons (fe_bin ok_pow ((fe_int).b) ((fe_int).b)) (fa_nil)))))))
      (fss_cons (fs_if ((fw_or (ft_not (ft_val (fe_call (ok__law_pair T) (hr.mono (by decide)) T.m__law_pair T.F__law_pair.kp (bd__law_pair T) passDef (fa_cons (fe_var 12) (fa_nil))))) (fw_or1 (ft_cmp ok_lt ((fe_ix (hu_of hr) (fb_var 12) ((fe_int).b)).b) (fb_var 9)))).t)
      (fss_one (fs_ret (fe_bl)))
      (fss_nil))
      (fss_cons (fs_asgZ (ps_set (i := 13) nd rfl (by first | exact Or.inl rfl | exact Or.inr rfl) (fe_bin ok_sub ((fe_bin ok_mul ((fe_ix (hu_of hr) (fb_var 6) ((fe_int).b)).b) ((fe_ix (hu_of hr) (fb_var 12) ((fe_int).b)).b)).b) ((fe_bin ok_mul ((fe_ix (hu_of hr) (fb_var 6) ((fe_int).b)).b) ((fe_bin ok_addA (fb_var 5) (fb_var 10)).b)).b))))
      (fss_cons (fs_if ((fw_or (ft_cmp ok_lt (fb_var 13) ((fe_bin ok_sub ((fe_int).b) (fb_var 7)).b)) (fw_or1 (ft_cmp ok_gt (fb_var 13) ((fe_bin ok_addA (fb_var 7) (fb_var 8)).b)))).t)
      (fss_one (fs_ret (fe_bl)))
      (fss_nil))
      (fss_one (fs_asgZ (ps_set (i := 9) nd rfl (by first | exact Or.inl rfl | exact Or.inr rfl) (fe_ix (hu_of hr) (fb_var 12) ((fe_int).b)))))))))))
      (fss_one (fs_ret (fe_bl)))))))))))))))
end
end FN

set_option Elab.async false
set_option linter.all false
set_option maxRecDepth 100000
/-! Least mean loops (after Karp), in plain Lean. -/
namespace FN
def mn : Nat → (Nat → Int) → Int
  | 0, f => f 0
  | 1, f => f 0
  | n + 2, f => min (mn (n + 1) f) (f (n + 1))
theorem mn_le {f : Nat → Int} : ∀ {n i : Nat}, i < n → mn n f ≤ f i
  | 0, i, h => by omega
  | 1, i, h => by
    have : i = 0 := by omega
    subst this; exact Int.le_refl _
  | n + 2, i, h => by
    show min (mn (n + 1) f) (f (n + 1)) ≤ f i
    by_cases q : i = n + 1
    · subst q; exact Int.min_le_right _ _
    · exact Int.le_trans (Int.min_le_left _ _) (mn_le (by omega))
theorem mn_at (f : Nat → Int) : ∀ {n : Nat}, 0 < n → ∃ i, i < n ∧ mn n f = f i
  | 0, h => by omega
  | 1, h => ⟨0, by omega, rfl⟩
  | n + 2, h => by
    obtain ⟨i, hi, e⟩ := mn_at f (n := n + 1) (by omega)
    by_cases q : mn (n + 1) f ≤ f (n + 1)
    · exact ⟨i, by omega, by show min _ _ = _; rw [Int.min_eq_left q, e]⟩
    · exact ⟨n + 1, by omega, by show min _ _ = _; rw [Int.min_eq_right (by omega)]⟩
theorem mn_uniq {f : Nat → Int} {n : Nat} {m : Int} (hm : ∃ i, i < n ∧ m = f i) (hl : ∀ i, i < n → m ≤ f i) : mn n f = m := by
  obtain ⟨i, hi, e⟩ := hm
  obtain ⟨j, hj, e'⟩ := mn_at f (n := n) (by omega)
  have h1 := mn_le (f := f) hi
  have h2 := hl j hj
  omega
theorem mn_congr {f g : Nat → Int} {n : Nat} (hn : 0 < n) (h : ∀ i, i < n → f i = g i) : mn n f = mn n g := by
  obtain ⟨j, hj, e⟩ := mn_at g hn
  exact mn_uniq ⟨j, hj, by rw [e, h j hj]⟩ fun i hi => by rw [h i hi]; exact mn_le hi
theorem mn_aff {f : Nat → Int} {n : Nat} {b c : Int} (hn : 0 < n) (hb : 0 ≤ b) : mn n (fun u => b * f u + c) = b * mn n f + c := by
  obtain ⟨j, hj, e⟩ := mn_at f hn
  refine mn_uniq ⟨j, hj, by rw [e]⟩ fun i hi => ?_
  have := Int.mul_le_mul_of_nonneg_left (mn_le (f := f) hi) hb
  omega
theorem minI_of {ns : List Int} {m : Int} (h1 : m ∈ ns) (h2 : ∀ y ∈ ns, m ≤ y) : minI ns = some m := by
  cases q : minI ns with
  | none => cases ns with
    | nil => cases h1
    | cons a r => cases q
  | some k =>
    obtain ⟨_, a, b⟩ := minI_ok q
    have := h2 _ a
    have := b _ h1
    congr 1; omega
theorem minI_mn {n : Nat} (hn : 0 < n) (f : Nat → Int) : minI ((List.range n).map f) = some (mn n f) := by
  obtain ⟨j, hj, e⟩ := mn_at f hn
  refine minI_of (List.mem_map.mpr ⟨j, List.mem_range.mpr hj, e.symm⟩) fun y hy => ?_
  obtain ⟨i, hi, rfl⟩ := List.mem_map.mp hy
  exact mn_le (List.mem_range.mp hi)

section
variable (n : Nat) (C : Nat → Nat → Int)
/-- the least walk of k steps to v -/
def Wk : Nat → Nat → Int
  | 0, _ => 0
  | k + 1, v => mn n fun u => Wk k u + C u v
/-- the least walk of at most k steps to v -/
def Ht : Nat → Nat → Int
  | 0, _ => 0
  | k + 1, v => min (Ht k v) (mn n fun u => Ht k u + C u v)
end
theorem Wk_red {n : Nat} {C : Nat → Nat → Int} {a b : Int} (hn : 0 < n) (hb : 0 ≤ b) : ∀ (k v : Nat), Wk n (fun u v => b * C u v - a) k v = b * Wk n C k v - k * a
  | 0, v => by simp [Wk]
  | k + 1, v => by
    show mn n _ = b * mn n _ - _
    rw [show b * mn n (fun u => Wk n C k u + C u v) - ((k + 1 : Nat) : Int) * a = b * mn n (fun u => Wk n C k u + C u v) + (-(((k + 1 : Nat) : Int) * a)) by omega, ← mn_aff hn hb]
    refine mn_congr hn fun u _ => ?_
    show Wk n (fun u v => b * C u v - a) k u + (b * C u v - a) = b * (Wk n C k u + C u v) + _
    rw [Wk_red hn hb k u, Int.mul_add]
    have : ((k + 1 : Nat) : Int) * a = k * a + a := by rw [Int.natCast_succ, Int.add_mul, Int.one_mul]
    omega
section
variable {n : Nat} {R : Nat → Nat → Int}
theorem Ht_le (hn : 0 < n) : ∀ {k j v : Nat}, j ≤ k → Ht n R k v ≤ Wk n R j v
  | 0, j, v, h => by
    have : j = 0 := by omega
    subst this; exact Int.le_refl _
  | k + 1, j, v, h => by
    show min _ _ ≤ _
    by_cases q : j ≤ k
    · exact Int.le_trans (Int.min_le_left _ _) (Ht_le hn q)
    · have : j = k + 1 := by omega
      subst this
      refine Int.le_trans (Int.min_le_right _ _) ?_
      show mn n _ ≤ mn n _
      obtain ⟨u, hu, e⟩ := mn_at (fun u => Wk n R k u + R u v) hn
      rw [e]
      have h1 := mn_le (f := fun u => Ht n R k u + R u v) hu
      have h2 := Ht_le hn (k := k) (j := k) (v := u) (Nat.le_refl _)
      omega
theorem Ht_at (hn : 0 < n) : ∀ (k v : Nat), ∃ j, j ≤ k ∧ Ht n R k v = Wk n R j v
  | 0, v => ⟨0, Nat.le_refl _, rfl⟩
  | k + 1, v => by
    by_cases q : Ht n R k v ≤ mn n fun u => Ht n R k u + R u v
    · obtain ⟨j, hj, e⟩ := Ht_at hn k v
      exact ⟨j, by omega, by show min _ _ = _; rw [Int.min_eq_left q, e]⟩
    · have e1 : Ht n R (k + 1) v = mn n fun u => Ht n R k u + R u v := by show min _ _ = _; rw [Int.min_eq_right (by omega)]
      obtain ⟨u, hu, e⟩ := mn_at (fun u => Ht n R k u + R u v) hn
      obtain ⟨j, hj, e'⟩ := Ht_at hn k u
      refine ⟨j + 1, by omega, Int.le_antisymm (Ht_le hn (by omega)) ?_⟩
      rw [e1, e, e']
      exact mn_le (f := fun u => Wk n R j u + R u v) hu
/-- no step goes below -/
theorem Ht_pot (hn : 0 < n) (hb : ∀ v, v < n → ∃ k, k < n ∧ Wk n R k v ≤ Wk n R n v) {u v : Nat} (hu : u < n) (hv : v < n) : Ht n R n v ≤ Ht n R n u + R u v := by
  have h1 : ∃ k, k < n ∧ Wk n R k u ≤ Ht n R n u := by
    obtain ⟨j, hj, e⟩ := Ht_at (R := R) hn n u
    by_cases q : j < n
    · exact ⟨j, q, by omega⟩
    · have : j = n := by omega
      subst this
      obtain ⟨k, hk, h⟩ := hb u hu
      exact ⟨k, hk, by omega⟩
  obtain ⟨k, hk, h⟩ := h1
  have h2 := Ht_le (R := R) hn (k := n) (j := k + 1) (v := v) (by omega)
  have h3 : Wk n R (k + 1) v ≤ Wk n R k u + R u v := mn_le (f := fun u => Wk n R k u + R u v) hu
  omega
/-- the starts of walks of r tight steps -/
def Surv (n : Nat) (T : Nat → Nat → Prop) : Nat → Nat → Prop
  | 0, p => p < n
  | r + 1, p => p < n ∧ ∃ g, T p g ∧ Surv n T r g
theorem Surv.lt {T : Nat → Nat → Prop} : ∀ {r p : Nat}, Surv n T r p → p < n
  | 0, p, h => h
  | r + 1, p, h => h.1
theorem Surv.down {T : Nat → Nat → Prop} : ∀ {r p : Nat}, Surv n T (r + 1) p → Surv n T r p
  | 0, p, h => h.1
  | r + 1, p, h => by
    obtain ⟨h1, g, h2, h3⟩ := h
    exact ⟨h1, g, h2, h3.down⟩
theorem Surv.le {T : Nat → Nat → Prop} {r s p : Nat} (h : Surv n T s p) (hr : r ≤ s) : Surv n T r p := by
  induction s with
  | zero =>
    have : r = 0 := by omega
    subst this; exact h
  | succ s ih =>
    by_cases q : r = s + 1
    · subst q; exact h
    · exact ih h.down (by omega)
theorem surv_of (hn : 0 < n) (hb : ∀ v, v < n → ∃ k, k < n ∧ Wk n R k v ≤ Wk n R n v) : ∀ (j r v : Nat), j ≤ n → v < n → Wk n R j v = Ht n R n v → Surv n (fun u v => Ht n R n u + R u v = Ht n R n v) r v → ∃ u, Surv n (fun u v => Ht n R n u + R u v = Ht n R n v) (r + j) u
  | 0, r, v, _, _, _, s => ⟨v, s⟩
  | j + 1, r, v, hj, hv, e, s => by
    obtain ⟨u, hu, e1⟩ := mn_at (fun u => Wk n R j u + R u v) hn
    have e2 : Wk n R (j + 1) v = Wk n R j u + R u v := e1
    have h1 := Ht_le (R := R) hn (k := n) (j := j) (v := u) (by omega)
    have h2 := Ht_pot hn hb hu hv
    obtain ⟨w, hw⟩ := surv_of hn hb j (r + 1) u (by omega) hu (by omega) ⟨hu, v, by omega, s⟩
    exact ⟨w, by rwa [show r + (j + 1) = r + 1 + j by omega]⟩
theorem surv_some (hn : 0 < n) (hb : ∀ v, v < n → ∃ k, k < n ∧ Wk n R k v ≤ Wk n R n v) {v : Nat} (hv : v < n) (ha : ∀ k, k < n → Wk n R n v ≤ Wk n R k v) : ∃ u, Surv n (fun u v => Ht n R n u + R u v = Ht n R n v) n u := by
  have : Wk n R n v = Ht n R n v := by
    obtain ⟨j, hj, e⟩ := Ht_at (R := R) hn n v
    have h1 := Ht_le (R := R) hn (k := n) (j := n) (v := v) (Nat.le_refl _)
    by_cases q : j < n
    · have := ha j q; omega
    · have : j = n := by omega
      subst this; exact e.symm
  have := surv_of hn hb n 0 v (Nat.le_refl _) hv this hv
  rwa [Nat.zero_add] at this
end

/-! the two fractions -/
/-- the steepest fall to a place -/
def Steep (n : Nat) (C : Nat → Nat → Int) (m : Nat) (v : Nat) (x y : Int) : Prop := ∃ k, k < m ∧ k < n ∧ y = ((n - k : Nat) : Int) ∧ x = Wk n C n v - Wk n C k v ∧ ∀ k', k' < m → (Wk n C n v - Wk n C k' v) * y ≤ x * ((n - k' : Nat) : Int)
theorem frac_trans {x1 y1 x2 y2 x3 y3 : Int} (h1 : 0 < y1) (h2 : 0 < y2) (h3 : 0 < y3) (a : x1 * y2 ≤ x2 * y1) (b : x2 * y3 ≤ x3 * y2) : x1 * y3 ≤ x3 * y1 := by
  have a' := Int.mul_le_mul_of_nonneg_right a (Int.le_of_lt h3)
  have b' := Int.mul_le_mul_of_nonneg_right b (Int.le_of_lt h1)
  have e1 : x1 * y2 * y3 = (x1 * y3) * y2 := by rw [Int.mul_assoc, Int.mul_comm y2, ← Int.mul_assoc]
  have e2 : x2 * y1 * y3 = x2 * y3 * y1 := by rw [Int.mul_assoc, Int.mul_comm y1, ← Int.mul_assoc]
  have e3 : x3 * y2 * y1 = (x3 * y1) * y2 := by rw [Int.mul_assoc, Int.mul_comm y2, ← Int.mul_assoc]
  rw [e1, e2] at a'
  rw [e3] at b'
  exact Int.le_of_mul_le_mul_right (Int.le_trans a' b') h2
theorem steep_next {n m v : Nat} {C : Nat → Nat → Int} {x y : Int} (hm : m < n) (h : Steep n C m v x y) :
    (x * ((n - m : Nat) : Int) < (Wk n C n v - Wk n C m v) * y → Steep n C (m + 1) v (Wk n C n v - Wk n C m v) ((n - m : Nat) : Int)) ∧
    (¬ x * ((n - m : Nat) : Int) < (Wk n C n v - Wk n C m v) * y → Steep n C (m + 1) v x y) := by
  obtain ⟨k, h1, h2, h3, h4, h5⟩ := h
  constructor
  · intro q
    refine ⟨m, by omega, hm, rfl, rfl, fun k' hk' => ?_⟩
    by_cases e : k' = m
    · subst e; exact Int.le_refl _
    · exact frac_trans (by omega) (y2 := y) (by omega) (by omega) (h5 k' (by omega)) (by omega)
  · intro q
    refine ⟨k, by omega, h2, h3, h4, fun k' hk' => ?_⟩
    by_cases e : k' = m
    · subst e; omega
    · exact h5 k' (by omega)
/-- the least of the steepest -/
def Aver (n : Nat) (C : Nat → Nat → Int) (m : Nat) (x y : Int) : Prop := 0 < y ∧ y ≤ n ∧ (∃ v, v < m ∧ ∀ k, k < n → (Wk n C n v - Wk n C k v) * y ≤ x * ((n - k : Nat) : Int)) ∧ ∀ v, v < m → ∃ k, k < n ∧ x * ((n - k : Nat) : Int) ≤ (Wk n C n v - Wk n C k v) * y
theorem aver_one {n : Nat} {C : Nat → Nat → Int} {x y : Int} (h : Steep n C n 0 x y) : Aver n C 1 x y := by
  obtain ⟨k, h1, h2, h3, h4, h5⟩ := h
  refine ⟨by omega, by omega, ⟨0, by omega, h5⟩, fun v hv => ?_⟩
  have : v = 0 := by omega
  subst this
  exact ⟨k, h2, by rw [h3, h4]; exact Int.le_refl _⟩
theorem aver_next {n m : Nat} {C : Nat → Nat → Int} {x y x' y' : Int} (h : Aver n C m x y) (s : Steep n C n m x' y') :
    (x' * y < x * y' → Aver n C (m + 1) x' y') ∧ (¬ x' * y < x * y' → Aver n C (m + 1) x y) := by
  obtain ⟨hy, hy2, ⟨v, hv, hv2⟩, h2⟩ := h
  obtain ⟨k, h1, h2', h3, h4, h5⟩ := s
  constructor
  · intro q
    refine ⟨by omega, by omega, ⟨m, by omega, h5⟩, fun u hu => ?_⟩
    by_cases e : u = m
    · subst e; exact ⟨k, h2', by rw [h3, h4]; exact Int.le_refl _⟩
    · obtain ⟨k', hk, hk2⟩ := h2 u (by omega)
      exact ⟨k', hk, frac_trans (x2 := x) (y2 := y) (by omega) hy (by omega) (by omega) hk2⟩
  · intro q
    refine ⟨hy, hy2, ⟨v, by omega, hv2⟩, fun u hu => ?_⟩
    by_cases e : u = m
    · subst e
      refine ⟨k, h2', ?_⟩
      rw [← h3, ← h4]; omega
    · exact h2 u (by omega)
/-- shared out: the loops' average -/
theorem aver_red {n : Nat} {C : Nat → Nat → Int} {x y a b g : Int} (hg : 0 < g) (ex : x = a * g) (ey : y = b * g) (h : Aver n C n x y) : 0 < b ∧ b ≤ n ∧
    (∃ v, v < n ∧ ∀ k, k < n → Wk n (fun u v => b * C u v - a) n v ≤ Wk n (fun u v => b * C u v - a) k v) ∧ ∀ v, v < n → ∃ k, k < n ∧ Wk n (fun u v => b * C u v - a) k v ≤ Wk n (fun u v => b * C u v - a) n v := by
  obtain ⟨hy, hy2, ⟨v, hv, hv2⟩, h2⟩ := h
  have hb : 0 < b := by
    rw [ey] at hy
    exact Int.pos_of_mul_pos_left hy hg
  have hbn : b ≤ n := by
    have : b * 1 ≤ b * g := Int.mul_le_mul_of_nonneg_left (by omega) (by omega)
    omega
  have key : ∀ {p q : Int}, p * y ≤ x * q → p * b ≤ a * q := fun {p q} h => by
    rw [ex, ey, ← Int.mul_assoc, Int.mul_right_comm a g q] at h
    exact Int.le_of_mul_le_mul_right h hg
  have key2 : ∀ {p q : Int}, x * q ≤ p * y → a * q ≤ p * b := fun {p q} h => by
    rw [ex, ey, ← Int.mul_assoc, Int.mul_right_comm a g q] at h
    exact Int.le_of_mul_le_mul_right h hg
  have hn : 0 < n := by omega
  have cast : ∀ k, k < n → a * ((n - k : Nat) : Int) = (n : Int) * a - (k : Int) * a := fun k hk => by
    rw [show ((n - k : Nat) : Int) = (n : Int) - (k : Int) by omega, Int.mul_sub, Int.mul_comm a, Int.mul_comm a]
  have cm : ∀ (p q : Int), (p - q) * b = b * p - b * q := fun p q => by rw [Int.sub_mul, Int.mul_comm p, Int.mul_comm q]
  refine ⟨hb, hbn, ⟨v, hv, fun k hk => ?_⟩, fun v hv => ?_⟩
  · have := key (hv2 k hk)
    rw [Wk_red hn (by omega), Wk_red hn (by omega)]
    rw [cast k hk, cm] at this
    omega
  · obtain ⟨k, hk, h3⟩ := h2 v hv
    have := key2 h3
    refine ⟨k, hk, ?_⟩
    rw [Wk_red hn (by omega), Wk_red hn (by omega)]
    rw [cast k hk, cm] at this
    omega
end FN

set_option Elab.async false
set_option linter.all false
set_option maxRecDepth 100000
set_option maxHeartbeats 2000000
/-! Tables of numbers; what the functions of the long run reckon. -/
namespace FN
open PySem PySem.Spec PyProof.Rows L2
def tab (n : Nat) (g : Nat → D) : List D := (List.range n).map g
section
variable {n k : Nat} {g f : Nat → D}
@[simp] theorem tab_len : (tab n g).length = n := by simp [tab]
theorem tab_get (h : k < n) : (tab n g)[k]? = some (g k) := by simp [tab, List.getElem?_range h]
@[simp] theorem tab_getE {h : k < (tab n g).length} : (tab n g)[k]'h = g k := by simp [tab]
theorem tab_succ : tab n g ++ [g n] = tab (n + 1) g := by simp [tab, List.range_succ]
theorem atI_tab (h : k < n) : atI (tab n g) (k : Int) = some (g k) := by rw [atI_cast, tab_get h]
theorem tab_congr (h : ∀ i, i < n → f i = g i) : tab n f = tab n g := List.map_congr_left fun i hi => h i (List.mem_range.mp hi)
theorem tab_one : tab 1 g = [g 0] := rfl
theorem atI_tab_last : atI (tab (n + 1) g) (-1) = some (g n) := by rw [atI_lastQ, ← tab_succ]; simp
theorem rangeD_tab : rangeD 0 n = tab n fun k => .int (k : Nat) := by
  unfold rangeD tab
  exact List.map_congr_left fun i _ => by rw [Int.zero_add]
end
abbrev iv (n : Nat) (f : Nat → Int) : D := .lst (tab n fun i => .int (f i))
abbrev im (n : Nat) (C : Nat → Nat → Int) : D := .lst (tab n fun i => iv n (C i))
def sm (n : Nat) (f : Nat → Int) : Int := ((List.range n).map f).sum
@[simp] theorem sm_0 {f : Nat → Int} : sm 0 f = 0 := rfl
theorem sm_succ {n : Nat} {f : Nat → Int} : sm (n + 1) f = sm n f + f n := by simp [sm, List.range_succ]
theorem gMin_tab {n : Nat} {f : Nat → Int} (h : 0 < n) : gMin [.oL (tab n fun u => .int (f u))] = some (.fz (.int (mn n f))) := gMin_of (ns := (List.range n).map f) (by show some _ = some _; rw [List.map_map]; rfl) (minI_mn h f)
theorem gSum_tab {n : Nat} {f : Nat → Int} : gSum [.oL (tab n fun u => .int (f u))] = some (.fz (.int (sm n f))) := gSum_of (ns := (List.range n).map f) (by show some _ = some _; rw [List.map_map]; rfl)
theorem rng1_of {j : Int} (h : cRng j) : rng1 [.fz (.int j)] = some (rangeD 0 j.toNat) := by simp only [rng1, if_pos h]
theorem rng2_of {i j : Int} (h : cRng i) (h' : cRng j) : rng2 [.fz (.int i), .fz (.int j)] = some (rangeD i (j - i).toNat) := by simp only [rng2, if_pos (And.intro h h')]
theorem cRng_nat {n : Nat} (h : n ≤ 100000) : cRng (n : Int) := cRng_of (by omega) (by omega)
section
variable {ρ ρ' : Env} {p q : Env → Option Out} {h : Env → Option (R (List Sl))} {n i : Nat} {vs : List Nat} {t : Env → Option (R Bool)} {f : Env → Option (R Sl)} {it : Env → Option (R (List D))} {b : Env → Option Out} {α : Type} {xs : List α} {enc : α → D}
theorem seq_nx (e : p ρ = some (.nx ρ')) : fSeq p q ρ = q ρ' := by rw [ev_seq, e]
theorem rng_tab (hh : h ρ = some (.val [.fz (.int (n : Nat))])) (hn : n ≤ 100000) : fRng rng1 h ρ = some (.val (tab n fun k => .int (k : Nat))) := by
  rw [ev_rng, hh, bnd_val]
  rw [rng1_of (cRng_nat hn), Int.toNat_natCast, rangeD_tab]; rfl
theorem lcL {g : α → D} (hh : it ρ = some (.val (xs.map enc))) (hn : xs.length ≤ 100000) (he : ∀ x, x ∈ xs → frD (f ((wipeD ρ vs).set i (.fz (enc x)))) = some (.val (g x))) : fLc it vs (gdN i) fYes f ρ = some (.val (.oL (xs.map g))) := by
  rw [ev_lc, hh, bnd_val, List.length_map, if_pos hn, lcGo_map (enc := enc) (g := g) xs fun x hx => ⟨_, rfl, rfl, he x hx⟩]; rfl
theorem lcLF {g : α → D} {c : α → Bool} (hh : it ρ = some (.val (xs.map enc))) (hn : xs.length ≤ 100000) (ht : ∀ x, x ∈ xs → t ((wipeD ρ vs).set i (.fz (enc x))) = some (.val (c x))) (he : ∀ x, x ∈ xs → frD (f ((wipeD ρ vs).set i (.fz (enc x)))) = some (.val (g x))) : fLc it vs (gdN i) t f ρ = some (.val (.oL ((xs.filter c).map g))) := by
  rw [ev_lc, hh, bnd_val, List.length_map, if_pos hn, lcGo_filter (enc := enc) (g := g) c xs fun x hx => ⟨_, rfl, ht x hx, fun _ => he x hx⟩]; rfl
theorem lcT {e g : Nat → D} (hh : it ρ = some (.val (tab n e))) (hn : n ≤ 100000) (he : ∀ k, k < n → frD (f ((wipeD ρ vs).set i (.fz (e k)))) = some (.val (g k))) : fLc it vs (gdN i) fYes f ρ = some (.val (.oL (tab n g))) :=
  lcL (xs := List.range n) hh (by simpa using hn) fun k hk => he k (List.mem_range.mp hk)
theorem lcR {g : Nat → D} (hh : h ρ = some (.val [.fz (.int (n : Nat))])) (hn : n ≤ 100000) (he : ∀ k, k < n → frD (f ((wipeD ρ vs).set i (.fz (.int (k : Nat))))) = some (.val (g k))) : fLc (fRng rng1 h) vs (gdN i) fYes f ρ = some (.val (.oL (tab n g))) :=
  lcT (rng_tab hh hn) hn he
theorem forL (I : Nat → Env → Prop) (hh : it ρ = some (.val (xs.map enc))) (h0 : I 0 ρ) (hs : ∀ k x ρ, xs[k]? = some x → I k ρ → ∃ ρ2, b (ρ.set i (.fz (enc x))) = some (.nx ρ2) ∧ I (k + 1) ρ2) : ∃ ρ', fFor it (gdN i) b ρ = some (.nx ρ') ∧ I xs.length ρ' := by
  rw [ev_for, hh]
  exact forGo_list enc xs I ρ h0 fun k x ρ hx hi => by
    obtain ⟨ρ2, h1, h2⟩ := hs k x ρ hx hi
    exact ⟨_, ρ2, rfl, .inl h1, h2⟩
theorem forT {e : Nat → D} (I : Nat → Env → Prop) (hh : it ρ = some (.val (tab n e))) (h0 : I 0 ρ) (hs : ∀ k ρ, k < n → I k ρ → ∃ ρ2, b (ρ.set i (.fz (e k))) = some (.nx ρ2) ∧ I (k + 1) ρ2) : ∃ ρ', fFor it (gdN i) b ρ = some (.nx ρ') ∧ I n ρ' := by
  have := forL (b := b) (i := i) (xs := List.range n) (enc := e) I hh h0 fun k x ρ hx hi => by
    have hk : k < n := by simpa using (List.getElem?_eq_some_iff.mp hx).1
    rw [List.getElem?_range hk] at hx
    cases hx
    exact hs k ρ hk hi
  rwa [List.length_range] at this
theorem forR (I : Nat → Env → Prop) (hh : h ρ = some (.val [.fz (.int (n : Nat))])) (hn : n ≤ 100000) (h0 : I 0 ρ) (hs : ∀ k ρ, k < n → I k ρ → ∃ ρ2, b (ρ.set i (.fz (.int (k : Nat)))) = some (.nx ρ2) ∧ I (k + 1) ρ2) : ∃ ρ', fFor (fRng rng1 h) (gdN i) b ρ = some (.nx ρ') ∧ I n ρ' :=
  forT I (rng_tab hh hn) h0 hs
/-- the world by the turn, and by what the turn leaves over -/
theorem forTE {β : Type} (E : Nat → β → Env) (e : Nat → D) (x0 : β) (hh : it (E 0 x0) = some (.val (tab n e))) (hs : ∀ k x, k < n → ∃ y, b ((E k x).set i (.fz (e k))) = some (.nx (E (k + 1) y))) : ∃ y, fFor it (gdN i) b (E 0 x0) = some (.nx (E n y)) := by
  obtain ⟨ρ', h1, y, rfl⟩ := forT (b := b) (i := i) (fun k ρ => ∃ y, ρ = E k y) hh ⟨x0, rfl⟩ (by
    rintro k ρ hk ⟨x, rfl⟩
    obtain ⟨y, h⟩ := hs k x hk
    exact ⟨_, h, y, rfl⟩)
  exact ⟨y, h1⟩
theorem forP {β : Type} (E : Nat → β → Env) (P : Nat → β → Prop) (e : Nat → D) (x0 : β) (hh : it (E 0 x0) = some (.val (tab n e))) (hp : P 0 x0) (hs : ∀ k x, k < n → P k x → ∃ y, b ((E k x).set i (.fz (e k))) = some (.nx (E (k + 1) y)) ∧ P (k + 1) y) : ∃ y, fFor it (gdN i) b (E 0 x0) = some (.nx (E n y)) ∧ P n y := by
  obtain ⟨ρ', h1, y, rfl, h2⟩ := forT (b := b) (i := i) (fun k ρ => ∃ y, ρ = E k y ∧ P k y) hh ⟨x0, rfl, hp⟩ (by
    rintro k ρ hk ⟨x, rfl, hx⟩
    obtain ⟨y, h, h'⟩ := hs k x hk hx
    exact ⟨_, h, y, rfl, h'⟩)
  exact ⟨y, h1, h2⟩
theorem rng2_tab {lo hi : Int} {m : Nat} (hh : h ρ = some (.val [.fz (.int lo), .fz (.int hi)])) (hm : hi = lo + m) (h1 : 0 ≤ lo) (h2 : hi ≤ 100000) : fRng rng2 h ρ = some (.val (tab m fun k => .int (lo + (k : Nat)))) := by
  rw [ev_rng, hh, bnd_val, rng2_of (cRng_of (by omega) (by omega)) (cRng_of (by omega) (by omega)), show (hi - lo).toNat = m by omega]; rfl
theorem forRE {β : Type} (E : Nat → β → Env) (x0 : β) (hh : h (E 0 x0) = some (.val [.fz (.int (n : Nat))])) (hn : n ≤ 100000) (hs : ∀ k x, k < n → ∃ y, b ((E k x).set i (.fz (.int (k : Nat)))) = some (.nx (E (k + 1) y))) : ∃ y, fFor (fRng rng1 h) (gdN i) b (E 0 x0) = some (.nx (E n y)) :=
  forTE E (fun k => .int (k : Nat)) x0 (rng_tab hh hn) hs
end

/-! ### the long run's functions -/
section
variable (A : Ad) {n : Nat} (h0 : 0 < n) (h8 : n ≤ 8)
include h0 h8
theorem e_lowest_into (h : Nat → Int) (C : Nat → Nat → Int) {v : Nat} (hv : v < n) : g_lowest_into A [iv n h, im n C, .int (v : Nat)] = some (.val (.fz (.int (mn n fun u => h u + C u v)))) := by
  refine gDef_rt rfl ?_
  show fRet _ [.fz (iv n h), .fz (im n C), .fz (.int (v : Nat)), .un] = _
  rw [ev_ret, ev_cb, ev_consB, lcR (n := n) (g := fun u => .int (h u + C u v)) (by simp -implicitDefEqProofs) (by omega) fun k hk => by simp -implicitDefEqProofs [le1_lowest_into, atI_tab, hk, hv]]
  simp -implicitDefEqProofs [gMin_tab h0]
theorem e_walks (C : Nat → Nat → Int) : g_walks A [im n C] = some (.val (.oL (tab (n + 1) fun k => iv n (Wk n C k)))) := by
  refine gDef_rt rfl ?_
  show fSeq _ _ [.fz (im n C), .un, .un, .un, .un, .un] = _
  refine (seq_nx (ρ' := [.fz (im n C), .fz (.int n), .un, .un, .un, .un]) (by simp -implicitDefEqProofs)).trans ?_
  refine (seq_nx (ρ' := [.fz (im n C), .fz (.int n), .oL (tab 1 fun k => iv n (Wk n C k)), .un, .un, .un]) ?_).trans ?_
  · rw [ev_asg, ev_lst, ev_cons, lcR (n := n) (g := fun u => .int 0) (by simp -implicitDefEqProofs) (by omega) fun k hk => by simp -implicitDefEqProofs [le1_walks]]
    simp -implicitDefEqProofs [tab_one, Wk]
  obtain ⟨y, h1⟩ := forRE (b := lb1_walks A) (i := 3) (n := n) (h := fConsB (fVarB 1) fNil) (fun k (x : Sl) => [.fz (im n C), .fz (.int n), .oL (tab (k + 1) fun k => iv n (Wk n C k)), x, .un, .un]) .un (by simp -implicitDefEqProofs) (by omega) fun k x hk => ⟨.fz (.int k), by
    unfold lb1_walks
    rw [ev_app, lcR (n := n) (g := fun u => .int (Wk n C (k + 1) u)) (by simp -implicitDefEqProofs) (by omega) fun v hv => by simp -implicitDefEqProofs [le2_walks, atI_tab_last, e_lowest_into A h0 h8 _ _ hv, Wk]]
    simp -implicitDefEqProofs [show k + 1 ≤ 100000 by omega, tab_succ]⟩
  rw [seq_nx h1]
  simp -implicitDefEqProofs
theorem e_steepest (C : Nat → Nat → Int) {v : Nat} (hv : v < n) : ∃ x y, g_steepest A [.lst (tab (n + 1) fun k => iv n (Wk n C k)), .int (v : Nat)] = some (.val (.fz (.tup [.int x, .int y]))) ∧ Steep n C n v x y := by
  let E : Nat → (Int × Int) × Sl × Sl → Env := fun _ p => [.fz (.lst (tab (n + 1) fun k => iv n (Wk n C k))), .fz (.int (v : Nat)), .fz (.int (n : Nat)), .fz (.tup [.int p.1.1, .int p.1.2]), p.2.1, p.2.2]
  obtain ⟨⟨⟨x, y⟩, z, w⟩, h1, s⟩ := forP (n := n - 1) (it := fRng rng2 (fConsB (fC (.int 1)) (fConsB (fVarB 2) (fNil)))) (b := lb1_steepest A) (i := 4) E (fun k p => Steep n C (k + 1) v p.1.1 p.1.2) (fun k => .int (1 + (k : Nat))) ((Wk n C n v - Wk n C 0 v, (n : Nat)), .un, .un)
    (rng2_tab (hi := (n : Nat)) (by simp -implicitDefEqProofs [E]) (by omega) (by omega) (by omega))
    ⟨0, by omega, by omega, rfl, rfl, fun k' hk => by
      have : k' = 0 := by omega
      subst this; exact Int.le_refl _⟩ (by
      rintro k ⟨⟨x, y⟩, z, w⟩ hk s
      have hs := steep_next (m := k + 1) (by omega) s
      obtain ⟨k', _, hk', ey, _⟩ := s
      dsimp only at hs ey
      have hc : ((1 : Int) + (k : Nat)) = ((k + 1 : Nat) : Int) := by omega
      have hc2 : ((n : Nat) : Int) - ((k + 1 : Nat) : Int) = ((n - (k + 1) : Nat) : Int) := by omega
      have m1 : cMul (Wk n C n v - Wk n C (k + 1) v) y := cMul_r (by omega)
      have m2 : cMul x ((n - (k + 1) : Nat) : Int) := cMul_r (by omega)
      have step1 : fAsgZ 5 (fOp oSub (fIx (fIx (fVarB 0) (fVarB 2)) (fVarB 1)) (fIx (fIx (fVarB 0) (fVarB 4)) (fVarB 1))) [.fz (.lst (tab (n + 1) fun k => iv n (Wk n C k))), .fz (.int (v : Nat)), .fz (.int (n : Nat)), .fz (.tup [.int x, .int y]), .fz (.int ((k + 1 : Nat) : Int)), w] = some (.nx [.fz (.lst (tab (n + 1) fun k => iv n (Wk n C k))), .fz (.int (v : Nat)), .fz (.int (n : Nat)), .fz (.tup [.int x, .int y]), .fz (.int ((k + 1 : Nat) : Int)), .fz (.int (Wk n C n v - Wk n C (k + 1) v))]) := by
        simp -implicitDefEqProofs only [ev_asgZ, ev_op, ev_ix, ev_varB, List.getElem?_cons_succ, List.getElem?_cons_zero, bnd_val, ev_ixL, atI_tab (show n < n + 1 by omega), atI_tab (show k + 1 < n + 1 by omega), atI_tab hv, Option.map_some, pur_some, ev_sub, ev_frD, ev_fr_fz, bndS_val, List.set_cons_succ, List.set_cons_zero]
      rw [hc]
      generalize hcc : ((k + 1 : Nat) : Int) = c at step1 hc hc2 ⊢
      generalize hdd : ((n - (k + 1) : Nat) : Int) = d at hs hc2 m2 ⊢
      by_cases q : x * d < (Wk n C n v - Wk n C (k + 1) v) * y
      · refine ⟨((Wk n C n v - Wk n C (k + 1) v, d), .fz (.int c), .fz (.int (Wk n C n v - Wk n C (k + 1) v))), (seq_nx step1).trans ?_, hs.1 q⟩
        simp -implicitDefEqProofs [hc2, m1, m2, q, E]
      · refine ⟨((x, y), .fz (.int c), .fz (.int (Wk n C n v - Wk n C (k + 1) v))), (seq_nx step1).trans ?_, hs.2 q⟩
        simp -implicitDefEqProofs [hc2, m1, m2, q, E])
  refine ⟨x, y, gDef_rt rfl ?_, by rwa [show n - 1 + 1 = n by omega] at s⟩
  show fSeq _ _ [.fz (.lst (tab (n + 1) fun k => iv n (Wk n C k))), .fz (.int (v : Nat)), .un, .un, .un, .un] = _
  refine (seq_nx (ρ' := [.fz (.lst (tab (n + 1) fun k => iv n (Wk n C k))), .fz (.int (v : Nat)), .fz (.int (n : Nat)), .un, .un, .un]) (by simp -implicitDefEqProofs)).trans ?_
  refine (seq_nx (ρ' := [.fz (.lst (tab (n + 1) fun k => iv n (Wk n C k))), .fz (.int (v : Nat)), .fz (.int (n : Nat)), .fz (.tup [.int (Wk n C n v - Wk n C 0 v), .int (n : Nat)]), .un, .un]) ?_).trans ?_
  · simp -implicitDefEqProofs [atI_tab (show n < n + 1 by omega), tab_get (show 0 < n + 1 by omega), atI_tab hv]
  refine (seq_nx h1).trans ?_
  simp -implicitDefEqProofs [E]
theorem e_lowest_average (C : Nat → Nat → Int) : ∃ x y g : Int, Aver n C n x y ∧ 0 < g ∧ g ≤ n ∧ (∃ a, x = a * g) ∧ (∃ b, y = b * g) ∧ Int.gcd x y = g ∧ g_lowest_average A [im n C] = some (.val (.fz (.tup [.int (x / g), .int (y / g)]))) := by
  obtain ⟨x0, y0, hs0, s0⟩ := e_steepest A h0 h8 C h0
  let F : D := .lst (tab (n + 1) fun k => iv n (Wk n C k))
  let E : Nat → (Int × Int) × Sl × Sl → Env := fun _ p => [.fz (im n C), .fz F, .fz (.tup [.int p.1.1, .int p.1.2]), p.2.1, p.2.2, .un, .un]
  obtain ⟨⟨⟨x, y⟩, z, w⟩, h1, s⟩ := forP (n := n - 1) (it := fRng rng2 (fConsB (fC (.int 1)) (fConsB (fCB gLen (fConsB (fVarB 0) (fNil))) (fNil)))) (b := lb1_lowest_average A) (i := 3) E (fun k p => Aver n C (k + 1) p.1.1 p.1.2) (fun k => .int (1 + (k : Nat))) ((x0, y0), .un, .un)
    (rng2_tab (hi := (n : Nat)) (by simp -implicitDefEqProofs [E]) (by omega) (by omega) (by omega))
    (aver_one s0) (by
      rintro k ⟨⟨x, y⟩, z, w⟩ hk s
      obtain ⟨x', y', hs', s'⟩ := e_steepest A h0 h8 C (show k + 1 < n by omega)
      have hs := aver_next s s'
      obtain ⟨hy, hy2, _⟩ := s
      obtain ⟨k', _, hk', ey, _⟩ := s'
      dsimp only at hs hy hy2
      have hc : ((1 : Int) + (k : Nat)) = ((k + 1 : Nat) : Int) := by omega
      have m1 : cMul x' y := cMul_r (by omega)
      have m2 : cMul x y' := cMul_r (by omega)
      rw [hc]
      generalize hcc : ((k + 1 : Nat) : Int) = c at hs' hc ⊢
      have step1 : fAsgZ 4 (fCall (g_steepest A) (fCons (fVar 1) (fCons (fVar 3) (fNil)))) [.fz (im n C), .fz F, .fz (.tup [.int x, .int y]), .fz (.int c), w, .un, .un] = some (.nx [.fz (im n C), .fz F, .fz (.tup [.int x, .int y]), .fz (.int c), .fz (.tup [.int x', .int y']), .un, .un]) := by
        simp -implicitDefEqProofs [F, hs']
      by_cases q : x' * y < x * y'
      · refine ⟨((x', y'), .fz (.int c), .fz (.tup [.int x', .int y'])), (seq_nx step1).trans ?_, hs.1 q⟩
        simp -implicitDefEqProofs [m1, m2, q, E]
      · refine ⟨((x, y), .fz (.int c), .fz (.tup [.int x', .int y'])), (seq_nx step1).trans ?_, hs.2 q⟩
        simp -implicitDefEqProofs [m1, m2, q, E])
  rw [show n - 1 + 1 = n by omega] at s
  dsimp only at s
  have hy := s.1
  have hy2 := s.2.1
  let E2 : Int → Int → Env := fun a b => [.fz (im n C), .fz F, .fz (.tup [.int x, .int y]), z, w, .fz (.int a), .fz (.int b)]
  obtain ⟨ρ', h2, hq⟩ := while_inv (c := wt1_lowest_average A) (b := wb1_lowest_average A) (fun ρ => ∃ a b : Nat, ρ = E2 a b ∧ Nat.gcd a b = Int.gcd x y) (fun ρ : Env => match ρ[6]? with | some (Sl.fz (D.int b)) => b.toNat | _ => 0) (fun ρ => ∃ a : Nat, ρ = E2 a 0 ∧ a = Int.gcd x y) (by
    rintro ρ ⟨a, b, rfl, hg⟩
    cases b with
    | zero =>
      refine ⟨false, by simp -implicitDefEqProofs [E2, wt1_lowest_average], ?_⟩
      rw [if_neg Bool.false_ne_true]
      exact ⟨a, rfl, by simpa using hg⟩
    | succ b =>
      refine ⟨true, ?_, ?_⟩
      · simp -implicitDefEqProofs [E2, wt1_lowest_average]
      · rw [if_pos rfl]
        refine ⟨E2 ((b + 1 : Nat) : Int) ((a % (b + 1) : Nat) : Int), .inl ?_, ⟨b + 1, a % (b + 1), rfl, ?_⟩, ?_⟩
        · have : cMod (a : Int) ((b + 1 : Nat) : Int) := cMod_of (by omega)
          rw [Int.natCast_emod]
          generalize ((b + 1 : Nat) : Int) = c at this ⊢
          simp -implicitDefEqProofs [wb1_lowest_average, E2, this]
        · rw [← hg, Nat.gcd_comm, Nat.gcd_comm a, Nat.gcd_rec (b + 1) a, Nat.gcd_comm]
        · have := Nat.mod_lt a (show 0 < b + 1 by omega)
          show ((a % (b + 1) : Nat) : Int).toNat < ((b + 1 : Nat) : Int).toNat
          simp only [Int.toNat_natCast]; exact this) (E2 x.natAbs y.natAbs) ⟨_, _, rfl, rfl⟩
  obtain ⟨g, rfl, hg⟩ := hq
  have hg0 : 0 < g := by rw [hg]; exact Int.gcd_pos_of_ne_zero_right _ (by omega)
  have hgn : (g : Int) ≤ n := by
    have : g ∣ y.natAbs := by rw [hg]; exact Nat.gcd_dvd_right _ _
    have := Nat.le_of_dvd (by omega) this
    omega
  refine ⟨x, y, g, s, by omega, hgn, ?_, ?_, by rw [hg], gDef_rt rfl ?_⟩
  · have : (g : Int) ∣ x := by rw [hg]; exact Int.gcd_dvd_left ..
    exact ⟨x / g, (Int.ediv_mul_cancel this).symm⟩
  · have : (g : Int) ∣ y := by rw [hg]; exact Int.gcd_dvd_right ..
    exact ⟨y / g, (Int.ediv_mul_cancel this).symm⟩
  show fSeq _ _ [.fz (im n C), .un, .un, .un, .un, .un, .un] = _
  refine (seq_nx (ρ' := [.fz (im n C), .fz F, .un, .un, .un, .un, .un]) (by simp -implicitDefEqProofs [e_walks A h0 h8, F])).trans ?_
  refine (seq_nx (ρ' := [.fz (im n C), .fz F, .fz (.tup [.int x0, .int y0]), .un, .un, .un, .un]) (by
    have : g_steepest A [F, .int 0] = some (.val (.fz (.tup [.int x0, .int y0]))) := hs0
    simp -implicitDefEqProofs [this])).trans ?_
  refine (seq_nx h1).trans ?_
  refine (seq_nx (ρ' := E2 x.natAbs y.natAbs) ?_).trans ?_
  · have e1 : (if x < 0 then -x else x) = (x.natAbs : Int) := by split <;> omega
    have e2 : y = (y.natAbs : Int) := by omega
    simp -implicitDefEqProofs [E, E2, e1]
    exact e2
  refine (seq_nx h2).trans ?_
  have d1 : ∀ i, cDiv i (g : Int) := fun i => cDiv_of (by omega) (Int.lt_of_le_of_lt (show (g : Int) ≤ 8 by omega) (by decide))
  simp -implicitDefEqProofs [E2, d1]
theorem e_slopes_of (C : Nat → Nat → Int) (a b : Int) (hb : 0 ≤ b) (hb8 : b ≤ n) : g_slopes_of A [im n C, .int a, .int b] = some (.val (.fz (iv n (Ht n (fun u v => b * C u v - a) n)))) := by
  refine gDef_rt rfl ?_
  have mb : ∀ i, cMul b i := fun i => cMul_l (by omega)
  show fSeq _ _ [.fz (im n C), .fz (.int a), .fz (.int b), .un, .un, .un, .un, .un, .un, .un, .un] = _
  refine (seq_nx (ρ' := [.fz (im n C), .fz (.int a), .fz (.int b), .fz (.int n), .un, .un, .un, .un, .un, .un, .un]) (by simp -implicitDefEqProofs)).trans ?_
  refine (seq_nx (ρ' := [.fz (im n C), .fz (.int a), .fz (.int b), .fz (.int n), .fz (im n fun u v => b * C u v - a), .un, .un, .un, .un, .un, .un]) ?_).trans ?_
  · rw [ev_asgZ, lcT (n := n) (e := fun u => iv n (C u)) (g := fun u => iv n fun v => b * C u v - a) (by simp -implicitDefEqProofs) (by omega) fun u hu => by
      unfold le2_slopes_of
      rw [lcT (n := n) (e := fun v => .int (C u v)) (g := fun v => .int (b * C u v - a)) (by simp -implicitDefEqProofs) (by omega) fun v hv => by simp -implicitDefEqProofs [le1_slopes_of, mb]]
      simp -implicitDefEqProofs]
    simp -implicitDefEqProofs
  refine (seq_nx (ρ' := [.fz (im n C), .fz (.int a), .fz (.int b), .fz (.int n), .fz (im n fun u v => b * C u v - a), .fz (iv n (Ht n (fun u v => b * C u v - a) 0)), .un, .un, .un, .un, .un]) ?_).trans ?_
  · rw [ev_asgZ, lcR (n := n) (g := fun u => .int 0) (by simp -implicitDefEqProofs) (by omega) fun v hv => by simp -implicitDefEqProofs [le3_slopes_of]]
    simp -implicitDefEqProofs [Ht]
  obtain ⟨y, h1⟩ := forRE (n := n) (h := fConsB (fVarB 3) fNil) (b := lb1_slopes_of A) (i := 6) (fun k (x : Sl) => [.fz (im n C), .fz (.int a), .fz (.int b), .fz (.int n), .fz (im n fun u v => b * C u v - a), .fz (iv n (Ht n (fun u v => b * C u v - a) k)), x, .un, .un, .un, .un]) .un (by simp -implicitDefEqProofs) (by omega) fun k x hk => ⟨.fz (.int k), by
    unfold lb1_slopes_of
    rw [ev_asgZ, lcR (n := n) (g := fun u => .int (Ht n (fun u v => b * C u v - a) (k + 1) u)) (by simp -implicitDefEqProofs) (by omega) fun v hv => by
      have : (if mn n (fun u => Ht n (fun u v => b * C u v - a) k u + (b * C u v - a)) < Ht n (fun u v => b * C u v - a) k v then mn n (fun u => Ht n (fun u v => b * C u v - a) k u + (b * C u v - a)) else Ht n (fun u v => b * C u v - a) k v) = Ht n (fun u v => b * C u v - a) (k + 1) v := by
        show _ = min _ (mn n fun u => Ht n (fun u v => b * C u v - a) k u + (b * C u v - a))
        rw [Int.min_def]; split <;> split <;> omega
      simp -implicitDefEqProofs [le4_slopes_of, atI_tab hv, e_lowest_into A h0 h8 _ (fun u v => b * C u v - a) hv, this]]
    simp -implicitDefEqProofs⟩
  rw [seq_nx h1]
  simp -implicitDefEqProofs
end
end FN

set_option Elab.async false
set_option linter.all false
set_option maxRecDepth 100000
set_option maxHeartbeats 2000000
/-! The tight loop. -/
namespace FN
open PySem PySem.Spec PyProof.Rows L2
def nI (p : Nat) : D := .int (p : Int)
theorem nI_eq {p : Nat} : nI p = .int (p : Int) := rfl
theorem cutG_from {α : Type} {xs : List α} {i : Nat} (h : i ≤ xs.length) : cutG xs (some (i : Int)) none = xs.drop i := by
  unfold cutG
  rw [HT.sIx_nat, HT.sIx_none, Nat.min_eq_left h, List.take_of_length_le (by simp)]
theorem cutG_nat {α : Type} {xs : List α} {i j : Nat} (h : i ≤ j) (h2 : j ≤ xs.length) : cutG xs (some (i : Int)) (some (j : Int)) = (xs.drop i).take (j - i) := by
  unfold cutG
  rw [HT.sIx_nat, HT.sIx_nat, Nat.min_eq_left h2, Nat.min_eq_left (by omega)]
theorem flat_nI {L : List Nat} : (L.map nI).all flatD = true := by simp [nI, flatD]
theorem in_nI {L : List Nat} {p : Nat} : inFD (.int (p : Int)) (L.map nI) = decide (p ∈ L) := by
  unfold inFD
  rw [List.any_map]
  induction L with
  | nil => rfl
  | cons a r ih =>
    rw [List.any_cons, ih]
    by_cases q : a = p
    · subst q; simp [nI, eqFD]
    · have : ¬ p = a := fun e => q e.symm
      have q' : ¬ (a : Int) = (p : Int) := by omega
      simp [nI, eqFD, q', this]
theorem ix_nI {L : List Nat} {p : Nat} (h : p ∈ L) : ∃ i, i < L.length ∧ L[i]? = some p ∧ ixFD (.int (p : Int)) (L.map nI) = some i := by
  unfold ixFD
  rw [List.findIdx?_map]
  have e : ((fun e => eqFD e (.int (p : Int))) ∘ nI) = fun a => a == p := by
    funext a
    show ((a : Int) == (p : Int)) = (a == p)
    rw [Bool.eq_iff_iff, beq_iff_eq, beq_iff_eq]; omega
  rw [e]
  induction L with
  | nil => cases h
  | cons a r ih =>
    by_cases q : a = p
    · exact ⟨0, by simp, by simp [q], by simp [List.findIdx?_cons, q]⟩
    · obtain ⟨i, h1, h2, h3⟩ := ih (by
        rcases List.mem_cons.mp h with e | e
        · exact absurd e.symm q
        · exact e)
      exact ⟨i + 1, by simp; exact h1, by simpa using h2, by simp [List.findIdx?_cons, q, h3]⟩
abbrev il (L : List Nat) : D := .lst (L.map nI)
abbrev bm (n : Nat) (T : Nat → Nat → Bool) : D := .lst (tab n fun i => .lst (tab n fun j => .bl (T i j)))
/-- a loop of tight steps -/
def Loop (n : Nat) (T : Nat → Nat → Bool) (L : List Nat) : Prop := 0 < L.length ∧ L.Nodup ∧ (∀ p ∈ L, p < n) ∧ ∀ k, k < L.length → ∃ u v, L[if k = 0 then L.length - 1 else k - 1]? = some u ∧ L[k]? = some v ∧ T u v = true
section
variable (A : Ad) {n : Nat} (h0 : 0 < n) (h8 : n ≤ 8)
include h0 h8
theorem e_loop_of (T : Nat → Nat → Bool) (hT : ∃ p, Surv n (fun u v => T u v = true) n p) : ∃ L : List Nat, Loop n T L ∧ g_loop_of A [bm n T] = some (.val (.oL (L.map nI))) := by
  -- what is alive
  obtain ⟨ρ1, h1, L, hL0, hLn, hLr, hLt, rfl⟩ := while_inv (c := wt1_loop_of A) (b := wb1_loop_of A)
    (fun ρ => ∃ (L : List Nat) (m r : Nat), ρ = [.fz (bm n T), .fz (il L), .fz (.int (m : Int)), .un, .un, .un] ∧ L.Nodup ∧ (∀ p ∈ L, p < n) ∧ r + L.length ≤ n ∧ (∀ p, Surv n (fun u v => T u v = true) r p → p ∈ L) ∧ L.length ≤ m ∧ (L.length = m → ∀ p ∈ L, L.any (T p) = true))
    (fun ρ : Env => match ρ[1]?, ρ[2]? with | some (Sl.fz (D.lst ds)), some (Sl.fz (D.int m)) => ds.length + m.toNat | _, _ => 0)
    (fun ρ => ∃ L : List Nat, 0 < L.length ∧ (∀ p ∈ L, p < n) ∧ L.Nodup ∧ (∀ p ∈ L, L.any (T p) = true) ∧ ρ = [.fz (bm n T), .fz (il L), .fz (.int ((L.length : Nat) : Int)), .un, .un, .un]) (by
    rintro ρ ⟨L, m, r, rfl, hnd, hn, hr, hs, hm, hc⟩
    have hl8 : L.length ≤ 8 := by omega
    by_cases q : L.length < m
    · refine ⟨true, by simp -implicitDefEqProofs [wt1_loop_of, q], ?_⟩
      rw [if_pos rfl]
      let c : Nat → Bool := fun p => L.any (T p)
      refine ⟨[.fz (bm n T), .fz (il (L.filter c)), .fz (.int ((L.length : Nat) : Int)), .un, .un, .un], .inl ?_, ?_, ?_⟩
      · unfold wb1_loop_of
        refine (seq_nx (ρ' := [.fz (bm n T), .fz (il L), .fz (.int ((L.length : Nat) : Int)), .un, .un, .un]) (by simp -implicitDefEqProofs)).trans ?_
        rw [ev_asgZ, lcLF (xs := L) (enc := nI) (g := nI) (c := c) (by simp -implicitDefEqProofs) (by omega) (fun p hp => by
          unfold lt1_loop_of
          rw [ev_T, ev_cb, ev_consB, lcL (xs := L) (enc := nI) (g := fun q => .bl (T p q)) (by simp -implicitDefEqProofs) (by omega) fun q hq => by
            simp -implicitDefEqProofs [le1_loop_of, nI_eq, atI_tab (hn p hp), atI_tab (hn q hq)]]
          have : gAny [.oL (L.map fun q => D.bl (T p q))] = some (.fz (.bl (c p))) := by
            rw [gAny_of (ns := L.map (T p)) (by rw [List.map_map]; rfl), List.any_map]; rfl
          simp -implicitDefEqProofs [this]) (fun p hp => by simp -implicitDefEqProofs [le2_loop_of])]
        simp -implicitDefEqProofs
      · have hle : (L.filter c).length ≤ L.length := List.length_filter_le ..
        by_cases e : (L.filter c).length = L.length
        · have hall : ∀ p ∈ L, c p = true := List.length_filter_eq_length_iff.mp e
          have hf : L.filter c = L := List.filter_eq_self.mpr hall
          rw [hf]
          exact ⟨L, L.length, r, rfl, hnd, hn, hr, hs, Nat.le_refl _, fun _ => hall⟩
        · refine ⟨L.filter c, L.length, r + 1, rfl, hnd.filter _, fun p hp => hn p (List.mem_filter.mp hp).1, by omega, fun p hp => ?_, hle, fun h => absurd h e⟩
          obtain ⟨g, hg1, hg2⟩ := hp.2
          exact List.mem_filter.mpr ⟨hs p hp.down, List.any_eq_true.mpr ⟨g, hs g hg2, hg1⟩⟩
      · have hle : (L.filter c).length ≤ L.length := List.length_filter_le ..
        show ((L.filter c).map nI).length + ((L.length : Nat) : Int).toNat < (L.map nI).length + (m : Int).toNat
        rw [List.length_map, List.length_map, Int.toNat_natCast, Int.toNat_natCast]; omega
    · refine ⟨false, by simp -implicitDefEqProofs [wt1_loop_of, q], ?_⟩
      rw [if_neg Bool.false_ne_true]
      have e : L.length = m := by omega
      obtain ⟨p, hp⟩ := hT
      have hpL := hs p (hp.le (by omega))
      exact ⟨L, List.length_pos_of_mem hpL, hn, hnd, hc e, by rw [e]⟩)
    [.fz (bm n T), .fz (il (List.range n)), .fz (.int ((n + 1 : Nat) : Int)), .un, .un, .un]
    ⟨List.range n, n + 1, 0, rfl, List.nodup_range, fun p hp => List.mem_range.mp hp, by simp, fun p hp => List.mem_range.mpr hp, by simp, fun h => by simp at h⟩
  have hl8 : L.length ≤ 8 := by
    have := List.Nodup.length_le_of_subset hLr (l₂ := List.range n) fun p hp => List.mem_range.mpr (hLn p hp)
    rw [List.length_range] at this; omega
  obtain ⟨p0, hp0⟩ : ∃ p0, L[0]? = some p0 := ⟨L[0], by simp⟩
  have hp0L : p0 ∈ L := List.mem_of_getElem? hp0
  -- the walk
  obtain ⟨ρ2, h2, W, p, hW1, hW2, hW3, hW4, hW5, rfl⟩ := while_inv (c := wt2_loop_of A) (b := wb2_loop_of A)
    (fun ρ => ∃ (W : List Nat) (p : Nat), W.Nodup ∧ (∀ x ∈ W, x ∈ L) ∧ p ∈ L ∧ (∀ k, k < W.length → ∃ u v, (W ++ [p])[k]? = some u ∧ (W ++ [p])[k + 1]? = some v ∧ T u v = true) ∧ ρ = [.fz (bm n T), .fz (il L), .fz (.int ((L.length : Nat) : Int)), .oL (W.map nI), .fz (.int (p : Int)), .un])
    (fun ρ : Env => match ρ[3]? with | some (Sl.oL ds) => L.length - ds.length | _ => 0)
    (fun ρ => ∃ (W : List Nat) (p : Nat), W.Nodup ∧ (∀ x ∈ W, x ∈ L) ∧ p ∈ W ∧ W.length ≤ L.length ∧ (∀ k, k < W.length → ∃ u v, (W ++ [p])[k]? = some u ∧ (W ++ [p])[k + 1]? = some v ∧ T u v = true) ∧ ρ = [.fz (bm n T), .fz (il L), .fz (.int ((L.length : Nat) : Int)), .oL (W.map nI), .fz (.int (p : Int)), .un]) (by
    rintro ρ ⟨W, p, w1, w2, w3, w4, rfl⟩
    have hin : inG true (.fz (.int (p : Int))) (.oL (W.map nI)) = some (.fz (.bl (!decide (p ∈ W)))) := by
      apply inG_of
      unfold oInL
      simp only [ev_seqZ_o]
      rw [if_pos ⟨rfl, flat_nI⟩, in_nI]; rfl
    have hwl : W.length ≤ L.length := List.Nodup.length_le_of_subset w1 w2
    by_cases q : p ∈ W
    · refine ⟨false, by simp -implicitDefEqProofs [wt2_loop_of, hin, q], ?_⟩
      rw [if_neg Bool.false_ne_true]
      exact ⟨W, p, w1, w2, q, hwl, w4, rfl⟩
    · refine ⟨true, by simp -implicitDefEqProofs [wt2_loop_of, hin, q], ?_⟩
      rw [if_pos rfl]
      obtain ⟨g, hg⟩ : ∃ g, (L.filter (T p))[0]? = some g := by
        obtain ⟨x, hx, hx2⟩ := List.any_eq_true.mp (hLt p w3)
        have : x ∈ L.filter (T p) := List.mem_filter.mpr ⟨hx, hx2⟩
        have := List.length_pos_of_mem this
        exact ⟨(L.filter (T p))[0], by simp⟩
      have hgm := List.mem_filter.mp (List.mem_of_getElem? hg)
      have w1' : (W ++ [p]).Nodup := by
        rw [List.nodup_append]
        exact ⟨w1, by simp, fun a ha b hb => by
          have : b = p := by simpa using hb
          subst this; exact fun e => q (e ▸ ha)⟩
      have w2' : ∀ x ∈ W ++ [p], x ∈ L := fun x hx => by
        rcases List.mem_append.mp hx with h | h
        · exact w2 x h
        · have : x = p := by simpa using h
          subst this; exact w3
      have hwl' : (W ++ [p]).length ≤ L.length := List.Nodup.length_le_of_subset w1' w2'
      refine ⟨[.fz (bm n T), .fz (il L), .fz (.int ((L.length : Nat) : Int)), .oL ((W ++ [p]).map nI), .fz (.int (g : Int)), .un], .inl ?_, ⟨W ++ [p], g, w1', w2', hgm.1, ?_, rfl⟩, ?_⟩
      · unfold wb2_loop_of
        refine (seq_nx (ρ' := [.fz (bm n T), .fz (il L), .fz (.int ((L.length : Nat) : Int)), .oL ((W ++ [p]).map nI), .fz (.int (p : Int)), .un]) ?_).trans ?_
        · simp -implicitDefEqProofs [show W.length ≤ 100000 by omega, nI_eq]
        rw [ev_asgZ, ev_ix, lcLF (xs := L) (enc := nI) (g := nI) (c := T p) (by simp -implicitDefEqProofs) (by omega) (fun x hx => by simp -implicitDefEqProofs [lt2_loop_of, nI_eq, atI_tab (hLn p w3), atI_tab (hLn x hx)]) (fun x hx => by simp -implicitDefEqProofs [le3_loop_of])]
        simp -implicitDefEqProofs [hg, List.getElem?_map, nI_eq]
      · intro k hk
        by_cases e : k < W.length
        · obtain ⟨u, v, a, b, c⟩ := w4 k e
          refine ⟨u, v, ?_, ?_, c⟩
          · rw [List.getElem?_append_left (by simp; omega)]; exact a
          · rw [List.getElem?_append_left (by simp; omega)]; exact b
        · have e : k = W.length := by simp at hk; omega
          subst e
          refine ⟨p, g, ?_, ?_, hgm.2⟩
          · simp
          · rw [List.getElem?_append_right (by simp)]; simp
      · show L.length - ((W ++ [p]).map nI).length < L.length - (W.map nI).length
        simp at hwl' ⊢; omega)
    [.fz (bm n T), .fz (il L), .fz (.int ((L.length : Nat) : Int)), .oL [], .fz (.int (p0 : Int)), .un]
    ⟨[], p0, List.nodup_nil, fun x hx => (by simp at hx), hp0L, fun k hk => by simp at hk, rfl⟩
  obtain ⟨i, hi, hi2, hi3⟩ := ix_nI hW3
  refine ⟨W.drop i, ⟨by simp; omega, hW1.sublist (List.drop_sublist ..), fun x hx => hLn x (hW2 x (List.mem_of_mem_drop hx)), fun k hk => ?_⟩, gDef_rt rfl ?_⟩
  · have hk' : i + k < W.length := by simp at hk; omega
    by_cases e : k = 0
    · subst e
      obtain ⟨u, v, a, b, c⟩ := hW5 (W.length - 1) (by omega)
      refine ⟨u, p, ?_, by simpa using hi2, ?_⟩
      · rw [if_pos rfl, List.getElem?_drop, List.length_drop, show i + (W.length - i - 1) = W.length - 1 by omega]
        rw [List.getElem?_append_left (by omega)] at a; exact a
      · rw [show W.length - 1 + 1 = W.length by omega] at b
        simp at b
        subst b; exact c
    · obtain ⟨u, v, a, b, c⟩ := hW5 (i + k - 1) (by omega)
      rw [List.getElem?_append_left (by omega)] at a
      rw [List.getElem?_append_left (by omega), show i + k - 1 + 1 = i + k by omega] at b
      refine ⟨u, v, ?_, ?_, c⟩
      · rw [if_neg e, List.getElem?_drop, show i + (k - 1) = i + k - 1 by omega]; exact a
      · rw [List.getElem?_drop]; exact b
  show fSeq _ _ [.fz (bm n T), .un, .un, .un, .un, .un] = _
  refine (seq_nx (ρ' := [.fz (bm n T), .fz (il (List.range n)), .un, .un, .un, .un]) ?_).trans ?_
  · simp -implicitDefEqProofs [show (n : Int) ≤ 1000000 by omega, show (-1000000 : Int) ≤ n by omega, rangeD_tab, tab]; exact fun a _ => rfl
  refine (seq_nx (ρ' := [.fz (bm n T), .fz (il (List.range n)), .fz (.int ((n + 1 : Nat) : Int)), .un, .un, .un]) (by simp -implicitDefEqProofs)).trans ?_
  refine (seq_nx h1).trans ?_
  refine (seq_nx (ρ' := [.fz (bm n T), .fz (il L), .fz (.int ((L.length : Nat) : Int)), .oL [], .un, .un]) (by simp -implicitDefEqProofs)).trans ?_
  refine (seq_nx (ρ' := [.fz (bm n T), .fz (il L), .fz (.int ((L.length : Nat) : Int)), .oL [], .fz (.int (p0 : Int)), .un]) (by simp -implicitDefEqProofs [List.getElem?_map, hp0, nI_eq])).trans ?_
  refine (seq_nx h2).trans ?_
  have hix : indexS (W.map nI) (.fz (.int (p : Int))) = some (.fz (.int (i : Nat))) := by
    show (if _ then _ else _) = _
    rw [if_pos ⟨rfl, flat_nI⟩, hi3]; rfl
  have hsl : sliceS (some (i : Int)) none (.oL (W.map nI)) = some (.oL ((W.drop i).map nI)) := by
    show some (Sl.oL (cutG _ _ _)) = _
    rw [cutG_from (by simp; omega), List.map_drop]
  simp -implicitDefEqProofs [hix, hsl]
end
end FN

set_option Elab.async false
set_option linter.all false
set_option maxRecDepth 100000
set_option maxHeartbeats 2000000
/-! Columns, steps and the long run. -/
namespace FN
open PySem PySem.Spec PyProof.Rows L2
/-- what a tie costs -/
def paid (s : Int) (d : Bool) : Int := if 0 < s ∧ d = true then s else if s < 0 ∧ d = false then -s else 0
/-- bit r of x and bit q of y are unlike -/
def dif (x r y q : Nat) : Bool := decide (x / 2 ^ r % 2 ≠ y / 2 ^ q % 2)
def tieF (i j : Nat) (s : Int) : List (Str × D) := [("one", .int i), ("two", .int j), ("strength", .int s)]
section
variable {i j : Nat} {s : Int}
theorem lk_wish : List.lookup ("wish" : Str) (tieF i j s) = none := rfl
theorem lk_price : List.lookup ("price" : Str) (tieF i j s) = none := rfl
theorem lk_unpleased : List.lookup ("unpleased" : Str) (tieF i j s) = none := rfl
theorem lk_one : List.lookup ("one" : Str) (tieF i j s) = some (D.int i) := rfl
theorem lk_two : List.lookup ("two" : Str) (tieF i j s) = some (D.int j) := rfl
theorem lk_strength : List.lookup ("strength" : Str) (tieF i j s) = some (D.int s) := rfl
end
section
variable (A : Ad) (hA : A.c_Pull ≠ A.c_Push)
include hA
theorem e_tie_of {i j : Nat} (h : i ≠ j) (s : Int) : g_tie_of A [.int (i : Nat), .int (j : Nat), .int s] = some (.val (.fz (if 0 ≤ s then .obj A.c_Pull (tieF i j s) else .obj A.c_Push (tieF i j (-s))))) := by
  refine gDef_rt rfl ?_
  show fSeq _ _ [.fz (.int (i : Nat)), .fz (.int (j : Nat)), .fz (.int s)] = _
  have hij : ¬ ((i : Int) = (j : Int)) := by omega
  by_cases q : 0 ≤ s
  · have g1 : g_Tie_init A [.int (i : Nat), .int (j : Nat), .int s] = some (.val (tieF i j s)) := by
      show (if _ then _ else _) = _
      rw [if_neg (by omega)]; rfl
    simp -implicitDefEqProofs [q, g1]
  · have g1 : g_Tie_init A [.int (i : Nat), .int (j : Nat), .int (-s)] = some (.val (tieF i j (-s))) := by
      show (if _ then _ else _) = _
      rw [if_neg (by omega)]; rfl
    simp -implicitDefEqProofs [q, g1]
theorem e_unpleased_pull {i j : Nat} (s : Int) (x : Nat) : g_Tie_unpleased A [.obj A.c_Pull (tieF i j s), .int (x : Nat)] = some (.val (.fz (.bl (dif x i x j)))) := by
  refine gDef_rt rfl ?_
  show fSeq _ _ [.fz (.obj A.c_Pull (tieF i j s)), .fz (.int (x : Nat)), .un] = _
  have o1 : ok_one A A.c_Pull = true := by simp [ok_one]
  have o2 : ok_two A A.c_Pull = true := by simp [ok_two]
  have w : g_Pull_wish A [.obj A.c_Pull (tieF i j s)] = some (.val (.fz (.int 0))) := gDef_rt rfl rfl
  have c1 : ∀ k : Nat, cShr (x : Int) (k : Int) := fun k => cShr_of (by omega)
  refine (seq_nx (ρ' := [.fz (.obj A.c_Pull (tieF i j s)), .fz (.int (x : Nat)), .fz (.int ((x / 2 ^ i + x / 2 ^ j : Nat) : Int))]) (by simp -implicitDefEqProofs [fldS, o1, o2, lk_one, lk_two, c1])).trans ?_
  have e : (!decide (Builtin.bitAnd ((x / 2 ^ i + x / 2 ^ j : Nat) : Int) 1 = 0)) = dif x i x j := by
    rw [PyProof.Rows.bitAnd_m1, Bool.eq_iff_iff]
    unfold dif
    simp only [Bool.not_eq_true', decide_eq_false_iff_not, decide_eq_true_eq]
    omega
  generalize ((x / 2 ^ i + x / 2 ^ j : Nat) : Int) = c at e ⊢
  simp -implicitDefEqProofs [lk_wish, w, e]
theorem e_unpleased_push {i j : Nat} (s : Int) (x : Nat) : g_Tie_unpleased A [.obj A.c_Push (tieF i j s), .int (x : Nat)] = some (.val (.fz (.bl (!dif x i x j)))) := by
  refine gDef_rt rfl ?_
  show fSeq _ _ [.fz (.obj A.c_Push (tieF i j s)), .fz (.int (x : Nat)), .un] = _
  have o1 : ok_one A A.c_Push = true := by simp [ok_one]
  have o2 : ok_two A A.c_Push = true := by simp [ok_two]
  have w : g_Push_wish A [.obj A.c_Push (tieF i j s)] = some (.val (.fz (.int 1))) := gDef_rt rfl rfl
  have c1 : ∀ k : Nat, cShr (x : Int) (k : Int) := fun k => cShr_of (by omega)
  have hA' : ¬ A.c_Push = A.c_Pull := fun e => hA e.symm
  refine (seq_nx (ρ' := [.fz (.obj A.c_Push (tieF i j s)), .fz (.int (x : Nat)), .fz (.int ((x / 2 ^ i + x / 2 ^ j : Nat) : Int))]) (by simp -implicitDefEqProofs [fldS, o1, o2, lk_one, lk_two, c1])).trans ?_
  have e : (!decide (Builtin.bitAnd ((x / 2 ^ i + x / 2 ^ j : Nat) : Int) 1 = 1)) = !dif x i x j := by
    rw [PyProof.Rows.bitAnd_m1]
    unfold dif
    congr 1
    rw [Bool.eq_iff_iff]
    simp only [decide_eq_true_eq]
    omega
  generalize ((x / 2 ^ i + x / 2 ^ j : Nat) : Int) = c at e ⊢
  simp -implicitDefEqProofs [lk_wish, w, e, hA']
theorem e_price {i j : Nat} (h : i ≠ j) (s : Int) (x : Nat) {ρ : Env} {fa fb : Env → Option (R (List D))} (ha : fa ρ = some (.val [.int (i : Nat), .int (j : Nat), .int s])) (hb : fb ρ = some (.val [.int (x : Nat)])) :
    alt (fMeth A.c_Pull "price" (g_Tie_price A) (fCall (g_tie_of A) fa) fb) (fMeth A.c_Push "price" (g_Tie_price A) (fCall (g_tie_of A) fa) fb) ρ = some (.val (.fz (.int (paid s (dif x i x j))))) := by
  have hA' : ¬ A.c_Push = A.c_Pull := fun e => hA e.symm
  by_cases q : 0 ≤ s
  · have o3 : ok_strength A A.c_Pull = true := by simp [ok_strength]
    have g1 : g_Tie_price A [.obj A.c_Pull (tieF i j s), .int (x : Nat)] = some (.val (.fz (.int (paid s (dif x i x j))))) := by
      refine gDef_rt rfl ?_
      show fRet _ [.fz (.obj A.c_Pull (tieF i j s)), .fz (.int (x : Nat))] = _
      have := e_unpleased_pull A hA (i := i) (j := j) s x
      cases e : dif x i x j with
      | true =>
        rw [e] at this
        have : paid s true = s := by
          unfold paid
          by_cases h : 0 < s
          · rw [if_pos ⟨h, rfl⟩]
          · rw [if_neg (by omega), if_neg (by simp)]; omega
        simp -implicitDefEqProofs [lk_unpleased, *, fldS, lk_strength]
      | false =>
        rw [e] at this
        have : paid s false = 0 := by unfold paid; rw [if_neg (by simp), if_neg (by omega)]
        simp -implicitDefEqProofs [lk_unpleased, *]
    simp -implicitDefEqProofs [ha, hb, e_tie_of A hA h, q, lk_price, g1]
  · have o3 : ok_strength A A.c_Push = true := by simp [ok_strength]
    have g1 : g_Tie_price A [.obj A.c_Push (tieF i j (-s)), .int (x : Nat)] = some (.val (.fz (.int (paid s (dif x i x j))))) := by
      refine gDef_rt rfl ?_
      show fRet _ [.fz (.obj A.c_Push (tieF i j (-s))), .fz (.int (x : Nat))] = _
      have := e_unpleased_push A hA (i := i) (j := j) (-s) x
      cases e : dif x i x j with
      | true =>
        rw [e] at this
        have : paid s true = 0 := by unfold paid; rw [if_neg (by omega), if_neg (by simp)]
        simp -implicitDefEqProofs [lk_unpleased, *]
      | false =>
        rw [e] at this
        have : paid s false = -s := by unfold paid; rw [if_neg (by simp), if_pos (by simp; omega)]
        simp -implicitDefEqProofs [lk_unpleased, *, fldS, lk_strength]
    simp -implicitDefEqProofs [ha, hb, e_tie_of A hA h, q, lk_price, g1, hA']
end
/-! ### columns -/
abbrev Col := List Int × List Int
def colD (c : Col) : D := .tup [.lst (c.1.map .int), .lst (c.2.map .int)]
def acr (c : Col) (x : Nat) : Int := sm c.1.length fun r => paid (c.1.getD r 0) (dif x r x (r + 1))
def alo (c : Col) (x y : Nat) : Int := sm c.2.length fun r => paid (c.2.getD r 0) (dif x r y r)
theorem or_sum : ∀ rows : Nat, rows < 4 → ∀ x : Nat, x < 8 → ∀ y : Nat, y < 8 → x < 2 ^ rows → Builtin.bitOr (x : Int) ((y : Int) * 2 ^ rows) = ((x + y * 2 ^ rows : Nat) : Int) := by decide +kernel
theorem dif_sum : ∀ rows : Nat, rows < 4 → ∀ x : Nat, x < 8 → ∀ y : Nat, y < 8 → x < 2 ^ rows → ∀ r, r < rows → dif (x + y * 2 ^ rows) r (x + y * 2 ^ rows) (r + rows) = dif x r y r := by decide +kernel
theorem getD_int {L : List Int} {r : Nat} (h : r < L.length) : atI (L.map D.int) (r : Int) = some (.int (L.getD r 0)) := by
  rw [atI_cast, List.getElem?_map, List.getElem?_eq_getElem h, List.getD_eq_getElem?_getD, List.getElem?_eq_getElem h]; rfl
section
variable (A : Ad) (hA : A.c_Pull ≠ A.c_Push)
include hA
theorem e_across (c : Col) (x : Nat) (hc : c.1.length ≤ 3) : g_across_price A [colD c, .int (x : Nat)] = some (.val (.fz (.int (acr c x)))) := by
  refine gDef_rt rfl ?_
  show fSeq _ _ [.fz (colD c), .fz (.int (x : Nat)), .un, .un] = _
  refine (seq_nx (ρ' := [.fz (colD c), .fz (.int (x : Nat)), .fz (.lst (c.1.map .int)), .un]) (by simp -implicitDefEqProofs [colD])).trans ?_
  rw [ev_ret, ev_cb, ev_consB, lcR (n := c.1.length) (g := fun r => .int (paid (c.1.getD r 0) (dif x r x (r + 1)))) (by simp -implicitDefEqProofs) (by omega) fun r hr => by
    unfold le1_across_price
    rw [e_price A hA (i := r) (j := r + 1) (by omega) (c.1.getD r 0) x (by simp -implicitDefEqProofs [getD_int hr]) (by simp -implicitDefEqProofs)]
    simp -implicitDefEqProofs]
  simp -implicitDefEqProofs [gSum_tab, acr]
theorem e_along (c : Col) (x y : Nat) {rows : Nat} (hr : c.2.length = rows) (h3 : rows ≤ 3) (hx : x < 2 ^ rows) (hy : y < 2 ^ rows) : g_along_price A [colD c, .int (x : Nat), .int (y : Nat)] = some (.val (.fz (.int (alo c x y)))) := by
  have h8 : 2 ^ rows ≤ 8 := Nat.pow_le_pow_right (n := 2) (by omega) h3
  refine gDef_rt rfl ?_
  show fSeq _ _ [.fz (colD c), .fz (.int (x : Nat)), .fz (.int (y : Nat)), .un, .un, .un, .un] = _
  refine (seq_nx (ρ' := [.fz (colD c), .fz (.int (x : Nat)), .fz (.int (y : Nat)), .fz (.lst (c.2.map .int)), .un, .un, .un]) (by simp -implicitDefEqProofs [colD])).trans ?_
  refine (seq_nx (ρ' := [.fz (colD c), .fz (.int (x : Nat)), .fz (.int (y : Nat)), .fz (.lst (c.2.map .int)), .fz (.int (rows : Nat)), .un, .un]) (by simp -implicitDefEqProofs [hr])).trans ?_
  have o := or_sum rows (by omega) x (by omega) y (by omega) hx
  refine (seq_nx (ρ' := [.fz (colD c), .fz (.int (x : Nat)), .fz (.int (y : Nat)), .fz (.lst (c.2.map .int)), .fz (.int (rows : Nat)), .fz (.int ((x + y * 2 ^ rows : Nat) : Int)), .un]) ?_).trans ?_
  · have : cPow (y : Int) (rows : Int) := cPow_of (by omega) (by omega) (by omega)
    rw [← o]
    simp -implicitDefEqProofs [this]
  rw [ev_ret, ev_cb, ev_consB, lcR (n := rows) (g := fun r => .int (paid (c.2.getD r 0) (dif x r y r))) (by simp -implicitDefEqProofs) (by omega) fun r hr' => by
    unfold le1_along_price
    rw [e_price A hA (i := r) (j := r + rows) (by omega) (c.2.getD r 0) (x + y * 2 ^ rows) (by simp -implicitDefEqProofs [getD_int (show r < c.2.length by omega)]) (by simp -implicitDefEqProofs), dif_sum rows (by omega) x (by omega) y (by omega) hx r hr']
    simp -implicitDefEqProofs]
  simp -implicitDefEqProofs [gSum_tab, alo, hr]
abbrev tm (n : Nat) (C M : Nat → Nat → Int) : D := .lst (tab n fun u => .lst (tab n fun v => .tup [.int (C u v), .int (M u v)]))
def stepC (c : Col) (x y : Nat) : Int := acr c x + alo c x y
theorem e_column_table (c : Col) {rows : Nat} (hr : c.2.length = rows) (h3 : rows ≤ 3) (hc : c.1.length ≤ 3) : g_column_table A [colD c] = some (.val (.oL (tab (2 ^ rows) fun u => .lst (tab (2 ^ rows) fun v => .tup [.int (stepC c u v), .int 1])))) := by
  have h8 : 2 ^ rows ≤ 8 := Nat.pow_le_pow_right (n := 2) (by omega) h3
  have hp : ((2 : Int) ^ rows) = ((2 ^ rows : Nat) : Int) := by rw [Int.natCast_pow]; rfl
  refine gDef_rt rfl ?_
  show fSeq _ _ [.fz (colD c), .un, .un, .un, .un, .un] = _
  generalize hn : 2 ^ rows = n at *
  refine (seq_nx (ρ' := [.fz (colD c), .fz (.int (n : Nat)), .un, .un, .un, .un]) ?_).trans ?_
  · have : cPow (1 : Int) (rows : Int) := cPow_of (by omega) (by omega) (by decide)
    simp -implicitDefEqProofs [colD, hr, this, hp]
  refine (seq_nx (ρ' := [.fz (colD c), .fz (.int (n : Nat)), .oL [], .un, .un, .un]) (by simp -implicitDefEqProofs)).trans ?_
  obtain ⟨⟨y, z⟩, h1⟩ := forRE (n := n) (h := fConsB (fVarB 1) fNil) (b := lb1_column_table A) (i := 3) (fun k (x : Sl × Sl) => [.fz (colD c), .fz (.int (n : Nat)), .oL (tab k fun u => .lst (tab n fun v => .tup [.int (stepC c u v), .int 1])), x.1, x.2, .un]) (.un, .un) (by simp -implicitDefEqProofs) (by omega) fun k x hk => ⟨(.fz (.int k), .fz (.int (acr c k))), by
    unfold lb1_column_table
    refine (seq_nx (ρ' := [.fz (colD c), .fz (.int (n : Nat)), .oL (tab k fun u => .lst (tab n fun v => .tup [.int (stepC c u v), .int 1])), .fz (.int k), .fz (.int (acr c k)), .un]) (by simp -implicitDefEqProofs [e_across A hA c k hc])).trans ?_
    rw [ev_app, lcR (n := n) (g := fun v => .tup [.int (stepC c k v), .int 1]) (by simp -implicitDefEqProofs) (by omega) fun v hv => by simp -implicitDefEqProofs [le1_column_table, e_along A hA c k v hr h3 (by omega) (by omega), stepC]]
    simp -implicitDefEqProofs [show k ≤ 100000 by omega, tab_succ]⟩
  have h1' : fFor (fRng rng1 (fConsB (fVarB 1) fNil)) (gdN 3) (lb1_column_table A) [.fz (colD c), .fz (.int (n : Nat)), .oL [], .un, .un, .un] = _ := h1
  rw [seq_nx h1']
  simp -implicitDefEqProofs
end
end FN

set_option Elab.async false
set_option linter.all false
set_option maxRecDepth 100000
set_option maxHeartbeats 2000000
/-! Steps joined; the long run. -/
namespace FN
open PySem PySem.Spec PyProof.Rows L2
abbrev tr (n : Nat) (f m : Nat → Int) : D := .lst (tab n fun v => .tup [.int (f v), .int (m v)])
/-- counts -/
def Cnt (x : Int) : Prop := 0 ≤ x ∧ x < 1000000000
theorem cnt1 : Cnt 1 := ⟨by decide, by decide⟩
def lowD (k : Nat) (g : Nat → Int) : D := if k = 0 then .non else .int (mn k g)
section
variable (A : Ad) {n : Nat} (h0 : 0 < n) (h8 : n ≤ 8)
include h0 h8
theorem e_way_to (f m : Nat → Int) (C M : Nat → Nat → Int) (hm : ∀ u, u < n → Cnt (m u)) (hM : ∀ u v, u < n → v < n → Cnt (M u v)) {v : Nat} (hv : v < n) :
    ∃ c, Cnt c ∧ g_way_to A [tr n f m, tm n C M, .int (v : Nat), .int 1000000000] = some (.val (.fz (.tup [.int (mn n fun u => f u + C u v), .int c]))) := by
  let g : Nat → Int := fun u => f u + C u v
  let E : Nat → Int × Sl × Sl → Env := fun k p => [.fz (tr n f m), .fz (tm n C M), .fz (.int (v : Nat)), .fz (.int 1000000000), .fz (lowD k g), .fz (.int p.1), p.2.1, p.2.2]
  obtain ⟨⟨c, y, z⟩, h1, hc⟩ := forP (n := n) (it := fRng rng1 (fConsB (fCB gLen (fConsB (fVarB 1) (fNil))) (fNil))) (b := lb1_way_to A) (i := 6) E (fun k p => 0 ≤ p.1) (fun k => .int (k : Nat)) (0, .un, .un)
    (rng_tab (by simp -implicitDefEqProofs [E]) (by omega)) (Int.le_refl _) (by
      rintro k ⟨c, y, z⟩ hk hc
      dsimp only at hc
      have e1 := atI_tab (g := fun v => D.tup [.int (f v), .int (m v)]) hk
      have e2 := atI_tab (g := fun u => D.lst (tab n fun v => .tup [.int (C u v), .int (M u v)])) hk
      have e3 := atI_tab (g := fun v => D.tup [.int (C k v), .int (M k v)]) hv
      have cm : cMul (m k) (M k v) := cMul_l (by have := hm k hk; unfold Cnt at this; omega)
      have pos : 0 ≤ m k * M k v := Int.mul_nonneg (hm k hk).1 (hM k v hk hv).1
      have step1 : fAsgZ 7 (fOp oAddA (fIx (fIx (fVarB 0) (fVarB 6)) (fC (.int 0))) (fIx (fIx (fIx (fVarB 1) (fVarB 6)) (fVarB 2)) (fC (.int 0)))) ((E k (c, y, z)).set 6 (.fz (.int (k : Nat)))) = some (.nx [.fz (tr n f m), .fz (tm n C M), .fz (.int (v : Nat)), .fz (.int 1000000000), .fz (lowD k g), .fz (.int c), .fz (.int (k : Nat)), .fz (.int (g k))]) := by
        simp -implicitDefEqProofs [E, e1, e2, e3, g]
      unfold lb1_way_to
      rw [seq_nx step1]
      have fin : ∀ (cc : Int), 0 ≤ cc → fIfS (fT (fOp oEqA (fVarB 7) (fVarB 4))) (fAug 5 (fun i j => i + j) (fOp oMul (fIx (fIx (fVarB 0) (fVarB 6)) (fC (.int 1))) (fIx (fIx (fIx (fVarB 1) (fVarB 6)) (fVarB 2)) (fC (.int 1))))) (fNext) [.fz (tr n f m), .fz (tm n C M), .fz (.int (v : Nat)), .fz (.int 1000000000), .fz (lowD (k + 1) g), .fz (.int cc), .fz (.int (k : Nat)), .fz (.int (g k))] = some (.nx (E (k + 1) (if g k = mn (k + 1) g then cc + m k * M k v else cc, .fz (.int (k : Nat)), .fz (.int (g k))))) := fun cc hcc => by
        have l1 : lowD (k + 1) g = .int (mn (k + 1) g) := by unfold lowD; rw [if_neg (by omega)]
        rw [l1]
        generalize hgk : g k = gk
        by_cases q : gk = mn (k + 1) g
        · simp -implicitDefEqProofs [q, e1, e2, e3, cm, E, l1]
        · simp -implicitDefEqProofs [q, e1, e2, e3, cm, E, l1]
      cases k with
      | zero =>
        refine ⟨_, (seq_nx (ρ' := [.fz (tr n f m), .fz (tm n C M), .fz (.int (v : Nat)), .fz (.int 1000000000), .fz (lowD 1 g), .fz (.int 0), .fz (.int (0 : Nat)), .fz (.int (g 0))]) ?_).trans (fin 0 (Int.le_refl _)), ?_⟩
        · have l0 : lowD 0 g = .non := rfl
          have l1 : lowD 1 g = .int (g 0) := rfl
          generalize g 0 = g0 at l1 ⊢
          simp -implicitDefEqProofs [l0, l1]
        · dsimp only; split <;> omega
      | succ k =>
        have l1 : lowD (k + 1) g = .int (mn (k + 1) g) := by unfold lowD; rw [if_neg (by omega)]
        have l2 : lowD (k + 1 + 1) g = .int (mn (k + 1 + 1) g) := by unfold lowD; rw [if_neg (by omega)]
        have l3 : mn (k + 1 + 1) g = min (mn (k + 1) g) (g (k + 1)) := rfl
        refine ⟨_, (seq_nx (ρ' := [.fz (tr n f m), .fz (tm n C M), .fz (.int (v : Nat)), .fz (.int 1000000000), .fz (lowD (k + 1 + 1) g), .fz (.int (if g (k + 1) < mn (k + 1) g then 0 else c)), .fz (.int ((k + 1 : Nat) : Int)), .fz (.int (g (k + 1)))]) ?_).trans (fin (if g (k + 1) < mn (k + 1) g then 0 else c) (by split <;> omega)), ?_⟩
        · rw [l1, l2, l3]
          generalize ((k + 1 : Nat) : Int) = kk
          generalize g (k + 1) = gk
          generalize mn (k + 1) g = mk
          by_cases q : gk < mk
          · simp -implicitDefEqProofs [q, Int.min_eq_right (show gk ≤ mk by omega)]
          · simp -implicitDefEqProofs [q, Int.min_eq_left (show mk ≤ gk by omega)]
        · dsimp only; split <;> split <;> omega)
  refine ⟨c % 1000000000, ⟨by omega, by omega⟩, gDef_rt rfl ?_⟩
  show fSeq _ _ [.fz (tr n f m), .fz (tm n C M), .fz (.int (v : Nat)), .fz (.int 1000000000), .un, .un, .un, .un] = _
  refine (seq_nx (ρ' := [.fz (tr n f m), .fz (tm n C M), .fz (.int (v : Nat)), .fz (.int 1000000000), .fz .non, .un, .un, .un]) (by simp -implicitDefEqProofs)).trans ?_
  refine (seq_nx (ρ' := [.fz (tr n f m), .fz (tm n C M), .fz (.int (v : Nat)), .fz (.int 1000000000), .fz .non, .fz (.int 0), .un, .un]) (by simp -implicitDefEqProofs)).trans ?_
  refine (seq_nx h1).trans ?_
  have l : lowD n g = .int (mn n g) := by unfold lowD; rw [if_neg (by omega)]
  have : cMod c 1000000000 := cMod_of (by omega)
  simp -implicitDefEqProofs [E, l, this, g]
theorem pick {α : Type} [Inhabited α] {P : Nat → α → Prop} (h : ∀ i, i < n → ∃ a, P i a) : ∃ f : Nat → α, ∀ i, i < n → P i (f i) :=
  ⟨fun i => if hi : i < n then (h i hi).choose else default, fun i hi => by dsimp only; rw [dif_pos hi]; exact (h i hi).choose_spec⟩
theorem e_row_joined (f m : Nat → Int) (C M : Nat → Nat → Int) (hm : ∀ u, u < n → Cnt (m u)) (hM : ∀ u v, u < n → v < n → Cnt (M u v)) :
    ∃ m' : Nat → Int, (∀ v, v < n → Cnt (m' v)) ∧ g_row_joined A [tr n f m, tm n C M, .int 1000000000] = some (.val (.oL (tab n fun v => .tup [.int (mn n fun u => f u + C u v), .int (m' v)]))) := by
  obtain ⟨m', hm'⟩ := pick (n := n) h0 h8 fun v hv => e_way_to A h0 h8 f m C M hm hM hv
  refine ⟨m', fun v hv => (hm' v hv).1, gDef_rt rfl ?_⟩
  show fRet _ [.fz (tr n f m), .fz (tm n C M), .fz (.int 1000000000), .un] = _
  rw [ev_ret, lcR (n := n) (g := fun v => .tup [.int (mn n fun u => f u + C u v), .int (m' v)]) (by simp -implicitDefEqProofs) (by omega) fun v hv => by simp -implicitDefEqProofs [le1_row_joined, (hm' v hv).2]]
  simp -implicitDefEqProofs
theorem e_tables_joined (L ML : Nat → Nat → Int) (C M : Nat → Nat → Int) (hm : ∀ u v, u < n → v < n → Cnt (ML u v)) (hM : ∀ u v, u < n → v < n → Cnt (M u v)) :
    ∃ m' : Nat → Nat → Int, (∀ u v, u < n → v < n → Cnt (m' u v)) ∧ g_tables_joined A [tm n L ML, tm n C M, .int 1000000000] = some (.val (.oL (tab n fun s => tr n (fun v => mn n fun u => L s u + C u v) (m' s)))) := by
  obtain ⟨m', hm'⟩ := pick (n := n) h0 h8 fun s hs => e_row_joined A h0 h8 (L s) (ML s) C M (fun u hu => hm s u hs hu) hM
  refine ⟨m', fun u v hu hv => (hm' u hu).1 v hv, gDef_rt rfl ?_⟩
  show fRet _ [.fz (tm n L ML), .fz (tm n C M), .fz (.int 1000000000), .un] = _
  rw [ev_ret, lcT (n := n) (e := fun u => tr n (L u) (ML u)) (g := fun s => tr n (fun v => mn n fun u => L s u + C u v) (m' s)) (by simp -implicitDefEqProofs) (by omega) fun s hs => by simp -implicitDefEqProofs [le1_tables_joined, (hm' s hs).2]]
  simp -implicitDefEqProofs
end
/-! ### patterns -/
def joinC (n : Nat) (L : Nat → Nat → Int) (c : Col) : Nat → Nat → Int := fun s t => mn n fun u => L s u + stepC c u t
def stepsC (n : Nat) : List Col → Nat → Nat → Int
  | [] => fun _ _ => 0
  | c :: cs => cs.foldl (joinC n) (stepC c)
def patD (P : List Col) : D := .lst (P.map colD)
/-- a pattern that fits -/
structure Pat (rows : Nat) (P : List Col) : Prop where
  r1 : 1 ≤ rows
  r3 : rows ≤ 3
  p1 : 1 ≤ P.length
  p6 : P.length ≤ 6
  along : ∀ c ∈ P, c.2.length = rows
  across : ∀ c ∈ P, c.1.length + 1 = rows
section
variable (A : Ad) {rows : Nat} {P : List Col} (hP : Pat rows P)
include hP
theorem e_rows_of : g_rows_of A [patD P] = some (.val (.fz (.int (rows : Nat)))) := by
  refine gDef_rt rfl ?_
  show fSeq _ _ [.fz (patD P), .un, .un, .un] = _
  obtain ⟨p1, p6, r1, r3⟩ : 1 ≤ P.length ∧ P.length ≤ 6 ∧ 1 ≤ rows ∧ rows ≤ 3 := ⟨hP.p1, hP.p6, hP.r1, hP.r3⟩
  refine (seq_nx (ρ' := [.fz (patD P), .un, .un, .un]) ?_).trans ?_
  · simp -implicitDefEqProofs [patD, show (1 : Int) ≤ (P.length : Int) by omega, show (P.length : Int) ≤ 6 by omega]
  obtain ⟨c0, hc0⟩ : ∃ c0, P[0]? = some c0 := ⟨P[0], by simp⟩
  refine (seq_nx (ρ' := [.fz (patD P), .fz (.int (rows : Nat)), .un, .un]) ?_).trans ?_
  · simp -implicitDefEqProofs [patD, List.getElem?_map, hc0, colD, hP.along c0 (List.mem_of_getElem? hc0)]
  refine (seq_nx (ρ' := [.fz (patD P), .fz (.int (rows : Nat)), .un, .un]) ?_).trans ?_
  · simp -implicitDefEqProofs [show (1 : Int) ≤ (rows : Int) by omega, show (rows : Int) ≤ 3 by omega]
  obtain ⟨ρ', h1, x, y, rfl⟩ := forGo_list (gd := gdT2 2 3) (b := lb1_rows_of A) colD P (fun _ ρ => ∃ x y, ρ = [.fz (patD P), .fz (.int (rows : Nat)), x, y]) [.fz (patD P), .fz (.int (rows : Nat)), .un, .un] ⟨_, _, rfl⟩ (by
    rintro k c ρ hc ⟨x, y, rfl⟩
    have ha := hP.along c (List.mem_of_getElem? hc)
    have hb := hP.across c (List.mem_of_getElem? hc)
    refine ⟨[.fz (patD P), .fz (.int (rows : Nat)), .fz (.lst (c.1.map .int)), .fz (.lst (c.2.map .int))], [.fz (patD P), .fz (.int (rows : Nat)), .fz (.lst (c.1.map .int)), .fz (.lst (c.2.map .int))], rfl, .inl ?_, _, _, rfl⟩
    simp -implicitDefEqProofs [lb1_rows_of, ha, show (c.1.length : Int) = (rows : Int) - 1 by omega])
  have h2 : fFor (fItL (fVar 0)) (gdT2 2 3) (lb1_rows_of A) [.fz (patD P), .fz (.int (rows : Nat)), .un, .un] = some (.nx [.fz (patD P), .fz (.int (rows : Nat)), x, y]) := by
    rw [ev_for]
    have : fItL (fVar 0) [.fz (patD P), .fz (.int (rows : Nat)), .un, .un] = some (.val (P.map colD)) := by simp -implicitDefEqProofs [patD]
    rw [this]; exact h1
  rw [seq_nx h2]
  simp -implicitDefEqProofs
theorem e_step_table (hA : A.c_Pull ≠ A.c_Push) : ∃ M : Nat → Nat → Int, (∀ u v, u < 2 ^ rows → v < 2 ^ rows → Cnt (M u v)) ∧ g_step_table A [patD P] = some (.val (.fz (tm (2 ^ rows) (stepsC (2 ^ rows) P) M))) := by
  have h8 : 2 ^ rows ≤ 8 := Nat.pow_le_pow_right (n := 2) (by omega) hP.r3
  have h0 : 0 < 2 ^ rows := Nat.pow_pos (by omega)
  have hr := e_rows_of A hP
  cases P with
  | nil => have := hP.p1; simp at this
  | cons c cs =>
    have ht : ∀ c' ∈ c :: cs, g_column_table A [colD c'] = some (.val (.oL (tab (2 ^ rows) fun u => .lst (tab (2 ^ rows) fun v => .tup [.int (stepC c' u v), .int 1])))) := fun c' hc' =>
      e_column_table A hA c' (hP.along c' hc') hP.r3 (by have := hP.across c' hc'; have := hP.r3; omega)
    generalize hn : 2 ^ rows = n at *
    obtain ⟨ρ', h1, M, x, hM, rfl⟩ := forL (it := fItL (fSlice (fVarB 0) (fPart (fC (.int 1))) (fNoPart))) (b := lb1_step_table A) (i := 2) (xs := cs) (enc := colD) (ρ := [.fz (patD (c :: cs)), .fz (tm n (stepC c) fun _ _ => 1), .un])
      (fun k ρ => ∃ M x, (∀ u v, u < n → v < n → Cnt (M u v)) ∧ ρ = [.fz (patD (c :: cs)), .fz (tm n ((cs.take k).foldl (joinC n) (stepC c)) M), x])
      (by
        have : sliceS (some 1) none (.fz (.lst (colD c :: cs.map colD))) = some (.oL (cs.map colD)) := by
          show some (Sl.oL (cutG _ (some ((1 : Nat) : Int)) none)) = _
          rw [cutG_from (by simp)]; rfl
        simp -implicitDefEqProofs [patD, this])
      ⟨fun _ _ => 1, .un, fun _ _ _ _ => cnt1, rfl⟩ (by
      rintro k c' ρ hc ⟨M, x, hM, rfl⟩
      obtain ⟨M', hM', e⟩ := e_tables_joined A h0 h8 ((cs.take k).foldl (joinC n) (stepC c)) M (stepC c') (fun _ _ => 1) hM fun _ _ _ _ => cnt1
      have hk : cs.take (k + 1) = cs.take k ++ [c'] := by rw [List.take_succ, hc]; rfl
      refine ⟨_, ?_, M', .fz (colD c'), hM', rfl⟩
      rw [hk, List.foldl_append]
      have hcm : c' ∈ c :: cs := List.mem_cons_of_mem _ (List.mem_of_getElem? hc)
      simp -implicitDefEqProofs [lb1_step_table, ht c' hcm, e]
      rfl)
    rw [List.take_length] at h1
    refine ⟨M, hM, gDef_rt rfl ?_⟩
    show fSeq _ _ [.fz (patD (c :: cs)), .un, .un] = _
    refine (seq_nx (ρ' := [.fz (patD (c :: cs)), .un, .un]) (by simp -implicitDefEqProofs [hr])).trans ?_
    refine (seq_nx (ρ' := [.fz (patD (c :: cs)), .fz (tm n (stepC c) fun _ _ => 1), .un]) ?_).trans ?_
    · have := ht c (List.mem_cons_self ..)
      simp -implicitDefEqProofs [patD, this]
    rw [seq_nx h1]
    simp -implicitDefEqProofs [stepsC]
end
section
variable (A : Ad) {n : Nat} (h0 : 0 < n) (h8 : n ≤ 8)
include h0 h8
theorem e_lows_of (f m : Nat → Int) : g_lows_of A [tr n f m] = some (.val (.oL (tab n fun v => .int (f v)))) := by
  refine gDef_rt rfl ?_
  show fRet _ [.fz (tr n f m), .un] = _
  rw [ev_ret, lcT (n := n) (e := fun v => .tup [.int (f v), .int (m v)]) (g := fun v => .int (f v)) (by simp -implicitDefEqProofs) (by omega) fun v hv => by simp -implicitDefEqProofs [le1_lows_of]]
  simp -implicitDefEqProofs
end
/-- what the paper of the long run says -/
structure Paper (n : Nat) (C : Nat → Nat → Int) (a b : Int) (S : Nat → Int) (L : List Nat) : Prop where
  b0 : 0 < b
  bn : b ≤ n
  one : Int.gcd a b = 1
  loop : Loop n (fun u v => decide (b * C u v + S u - S v = a)) L
  pot : ∀ u v, u < n → v < n → a ≤ b * C u v + S u - S v
theorem e_long_run (A : Ad) (hA : A.c_Pull ≠ A.c_Push) {rows : Nat} {P : List Col} (hP : Pat rows P) : ∃ a b S L, Paper (2 ^ rows) (stepsC (2 ^ rows) P) a b S L ∧ g_long_run A [patD P] = some (.val (.fz (.tup [.int a, .int b, il L, iv (2 ^ rows) S]))) := by
  have h8 : 2 ^ rows ≤ 8 := Nat.pow_le_pow_right (n := 2) (by omega) hP.r3
  have h0 : 0 < 2 ^ rows := Nat.pow_pos (by omega)
  obtain ⟨M, _, hst⟩ := e_step_table A hP hA
  generalize hn : 2 ^ rows = n at *
  generalize hC : stepsC n P = C at *
  obtain ⟨x, y, g, hav, hg, hgn, ⟨a, ea⟩, ⟨b, eb⟩, hgcd, hla⟩ := e_lowest_average A h0 h8 C
  have ex : x / g = a := by rw [ea]; exact Int.mul_ediv_cancel _ (by omega)
  have ey : y / g = b := by rw [eb]; exact Int.mul_ediv_cancel _ (by omega)
  rw [ex, ey] at hla
  obtain ⟨hb, hbn, ⟨v, hv, hv2⟩, hpot⟩ := aver_red hg ea eb hav
  let S : Nat → Int := Ht n (fun u v => b * C u v - a) n
  have hS := e_slopes_of A h0 h8 C a b (by omega) hbn
  let T : Nat → Nat → Bool := fun u v => decide (b * C u v + S u - S v = a)
  have hT : (fun u v => Ht n (fun u v => b * C u v - a) n u + (b * C u v - a) = Ht n (fun u v => b * C u v - a) n v) = fun u v => T u v = true := by
    funext u v
    show (S u + (b * C u v - a) = S v) = (decide (b * C u v + S u - S v = a) = true)
    rw [decide_eq_true_eq]
    exact propext ⟨fun h => by omega, fun h => by omega⟩
  have hsv := surv_some h0 hpot hv hv2
  rw [hT] at hsv
  obtain ⟨L, hL, hlo⟩ := e_loop_of A h0 h8 T hsv
  have hgg : Int.gcd a b = 1 := by
    have e : Int.gcd x y = Int.gcd a b * g.natAbs := by rw [ea, eb, Int.gcd_mul_right]
    have : (Int.gcd a b : Int) * g = g := by
      have h2 : ((Int.gcd a b * g.natAbs : Nat) : Int) = g := by rw [← e]; exact hgcd
      rw [Int.natCast_mul] at h2
      rwa [show ((g.natAbs : Nat) : Int) = g by omega] at h2
    have h3 : ((Int.gcd a b : Int) - 1) * g = 0 := by rw [Int.sub_mul, this]; omega
    rcases Int.mul_eq_zero.mp h3 with h | h <;> omega
  refine ⟨a, b, S, L, ⟨hb, hbn, hgg, hL, fun u v hu hv => ?_⟩, gDef_rt rfl ?_⟩
  · have : S v ≤ S u + (b * C u v - a) := Ht_pot h0 hpot hu hv
    omega
  show fSeq _ _ [.fz (patD P), .un, .un, .un, .un, .un, .un, .un, .un] = _
  refine (seq_nx (ρ' := [.fz (patD P), .fz (im n C), .un, .un, .un, .un, .un, .un, .un]) ?_).trans ?_
  · rw [ev_asgZ, lcT (n := n) (e := fun u => tr n (C u) (M u)) (g := fun u => iv n (C u)) (by simp -implicitDefEqProofs [hst]) (by omega) fun u hu => by simp -implicitDefEqProofs [le1_long_run, e_lows_of A h0 h8]]
    simp -implicitDefEqProofs
  refine (seq_nx (ρ' := [.fz (patD P), .fz (im n C), .un, .un, .un, .fz (.int a), .fz (.int b), .un, .un]) (by simp -implicitDefEqProofs [hla, gdT2])).trans ?_
  refine (seq_nx (ρ' := [.fz (patD P), .fz (im n C), .fz (iv n S), .un, .un, .fz (.int a), .fz (.int b), .un, .un]) (by simp -implicitDefEqProofs [hS]; rfl)).trans ?_
  refine (seq_nx (ρ' := [.fz (patD P), .fz (im n C), .fz (iv n S), .oL [], .un, .fz (.int a), .fz (.int b), .un, .un]) (by simp -implicitDefEqProofs)).trans ?_
  have mb : ∀ i, cMul b i := fun i => cMul_l (by omega)
  obtain ⟨⟨y, z⟩, h1⟩ := forRE (n := n) (h := fConsB (fCB gLen (fConsB (fVarB 1) (fNil))) (fNil)) (b := lb1_long_run A) (i := 4) (fun k (p : Sl × Sl) => [.fz (patD P), .fz (im n C), .fz (iv n S), .oL (tab k fun u => .lst (tab n fun v => .bl (T u v))), p.1, .fz (.int a), .fz (.int b), p.2, .un]) (.un, .un) (by simp -implicitDefEqProofs) (by omega) fun k x hk => ⟨(.fz (.int k), .fz (iv n (C k))), by
    unfold lb1_long_run
    refine (seq_nx (ρ' := [.fz (patD P), .fz (im n C), .fz (iv n S), .oL (tab k fun u => .lst (tab n fun v => .bl (T u v))), .fz (.int k), .fz (.int a), .fz (.int b), .fz (iv n (C k)), .un]) (by simp -implicitDefEqProofs [atI_tab hk])).trans ?_
    rw [ev_app, lcR (n := n) (g := fun v => .bl (T k v)) (by simp -implicitDefEqProofs) (by omega) fun v hv => by simp -implicitDefEqProofs [le2_long_run, atI_tab hk, atI_tab hv, mb, T]]
    simp -implicitDefEqProofs [show k ≤ 100000 by omega, tab_succ]⟩
  have h1' : fFor (fRng rng1 (fConsB (fCB gLen (fConsB (fVarB 1) (fNil))) (fNil))) (gdN 4) (lb1_long_run A) [.fz (patD P), .fz (im n C), .fz (iv n S), .oL [], .un, .fz (.int a), .fz (.int b), .un, .un] = _ := h1
  rw [seq_nx h1']
  simp -implicitDefEqProofs [hlo]
end FN

set_option Elab.async false
set_option linter.all false
set_option maxRecDepth 100000
set_option maxHeartbeats 2000000
/-! The law's own functions. -/
namespace FN
open PySem PySem.Spec PyProof.Rows L2
/-! ### like data -/
def colP (c : Col) : PyData := .tuple [.list (c.1.map .int), .list (c.2.map .int)]
theorem toPys_ints : ∀ ns : List Int, toPys (ns.map .int) = some (ns.map PyData.int)
  | [] => rfl
  | n :: ns => by
    show (toPy (.int n)).bind _ = _
    rw [show toPy (.int n) = some (.int n) by simp [toPy], Option.bind_some, toPys_ints ns]; rfl
theorem toPy_col (c : Col) : toPy (colD c) = some (colP c) := by simp [colD, colP, toPy, toPys, toPys_ints]
theorem toPys_cols : ∀ P : List Col, toPys (P.map colD) = some (P.map colP)
  | [] => by simp [toPys]
  | c :: P => by simp [toPys, toPy_col, toPys_cols P]
theorem toPy_pat (P : List Col) : toPy (patD P) = some (.list (P.map colP)) := by simp [patD, toPy, toPys_cols]
theorem lay_ints : ∀ ns : List Int, PyData.canLayAll0 (ns.map PyData.int) = true
  | [] => by simp [PyData.canLayAll0]
  | _ :: r => by simp [PyData.canLayAll0, PyData.canLay0, lay_ints r]
theorem dep_ints : ∀ ns : List Int, PyData.depthAll (ns.map PyData.int) = 0
  | [] => by simp [PyData.depthAll]
  | _ :: r => by simp [PyData.depthAll, PyData.depth, dep_ints r]
theorem lay_cols : ∀ P : List Col, PyData.canLayAll0 (P.map colP) = true
  | [] => by simp [PyData.canLayAll0]
  | c :: P => by simp [PyData.canLayAll0, PyData.canLay0, colP, lay_ints, lay_cols P]
theorem dep_cols : ∀ P : List Col, PyData.depthAll (P.map colP) ≤ 2
  | [] => by simp [PyData.depthAll]
  | c :: P => by
    have := dep_cols P
    simp [PyData.depthAll, PyData.depth, colP, dep_ints]; omega
theorem ne_pat (P : List Col) : oNeA (.fz (patD P)) (.fz (patD P)) = some (.fz (.bl false)) := by
  have h1 : SeqAt.shaped (.list (P.map colP)) = true := by
    have := dep_cols P
    simp [SeqAt.shaped, PyData.canLay0, PyData.depth, lay_cols]; omega
  have h2 : PyData.eqv (.list (P.map colP)) (.list (P.map colP)) = true := SeqAt.eqv_refl _ (SeqAt.canLay_of_shaped h1)
  have h3 : oNeS (.fz (patD P)) (.fz (patD P)) = none := rfl
  unfold oNeA altG
  rw [h3]
  show oNeD _ _ = _
  unfold oNeD eqPy
  simp only [pyS, toPy_pat, h1, h2, and_self, if_true]; rfl
/-! ### kinds -/
theorem isi_list {ds : List D} : gIsi [.fz (.lst ds), .fz (.cls (.ty "list"))] = some (.fz (.bl true)) := rfl
theorem isi_tup {ds : List D} : gIsi [.fz (.tup ds), .fz (.cls (.ty "tuple"))] = some (.fz (.bl true)) := rfl
theorem isi_int {n : Int} : gIsi [.fz (.int n), .fz (.cls (.ty "int"))] = some (.fz (.bl true)) := rfl
theorem kit_int_bool : kitB "int" "bool" = some false := by decide +kernel
theorem isi_int_bool {n : Int} : gIsi [.fz (.int n), .fz (.cls (.ty "bool"))] = some (.fz (.bl false)) := by
  unfold gIsi
  simp only [tyN, Option.bind_some, kit_int_bool]; rfl
/-! ### dicts -/
section
variable {κ β : Type} [DecidableEq κ]
theorem valG_put {kvs : List (κ × β)} {k k' : κ} {v : β} : valG (putG kvs k v) k' = if k = k' then some v else valG kvs k' := by
  unfold putG
  by_cases h : (kvs.any fun kv => decide (kv.1 = k)) = true
  · rw [if_pos h]
    induction kvs with
    | nil => simp at h
    | cons p r ih =>
      rw [List.map_cons, valG_cons, valG_cons]
      by_cases q : p.1 = k
      · rw [if_pos q]
        by_cases q2 : k = k'
        · rw [if_pos (by rw [q]; exact q2), if_pos q2]
        · rw [if_neg (by rw [q]; exact q2), if_neg q2, if_neg (by rw [q]; exact q2)]
          by_cases h' : (r.any fun kv => decide (kv.1 = k)) = true
          · rw [ih h', if_neg q2]
          · have : (r.map fun kv => if kv.1 = k then (kv.1, v) else kv) = r := by
              rw [List.map_congr_left (g := id)]
              · simp
              · intro e he
                have : ¬ e.1 = k := fun hh => h' (List.any_eq_true.mpr ⟨e, he, by simp [hh]⟩)
                simp [this]
            rw [this]
      · rw [if_neg q]
        have h' : (r.any fun kv => decide (kv.1 = k)) = true := by
          rw [List.any_cons] at h; simpa [q] using h
        rw [ih h']
        by_cases q2 : k = k'
        · rw [if_pos q2, if_neg (by rw [← q2]; exact q), if_pos q2]
        · rw [if_neg q2, if_neg q2]
  · rw [if_neg h]
    induction kvs with
    | nil =>
      rw [List.nil_append, valG_cons]
    | cons p r ih =>
      have h' : ¬ (r.any fun kv => decide (kv.1 = k)) = true := fun hh => h (by rw [List.any_cons, hh, Bool.or_true])
      have hp : ¬ p.1 = k := fun hh => h (by rw [List.any_cons]; simp [hh])
      rw [List.cons_append, valG_cons, valG_cons, ih h']
      by_cases q2 : k = k'
      · rw [if_pos q2, if_neg (by rw [← q2]; exact hp), if_pos q2]
      · rw [if_neg q2, if_neg q2]
theorem mem_put {kvs : List (κ × β)} {k : κ} {v : β} {e : κ × β} (h : e ∈ putG kvs k v) : e = (k, v) ∨ e ∈ kvs := by
  unfold putG at h
  split at h
  · obtain ⟨x, hx, rfl⟩ := List.mem_map.mp h
    by_cases q : x.1 = k
    · rw [if_pos q]; exact .inl (by rw [q])
    · rw [if_neg q]; exact .inr hx
  · rcases List.mem_append.mp h with h | h
    · exact .inr h
    · exact .inl (by simpa using h)
theorem len_put {kvs : List (κ × β)} {k : κ} {v : β} : (putG kvs k v).length ≤ kvs.length + 1 := by
  unfold putG
  split <;> simp
theorem val_mem {kvs : List (κ × β)} {k : κ} {v : β} (h : valG kvs k = some v) : ∃ e ∈ kvs, e = (k, v) := by
  unfold valG at h
  cases q : kvs.find? fun kv => decide (kv.1 = k) with
  | none => rw [q] at h; cases h
  | some e =>
    rw [q] at h; cases h
    have h1 := List.find?_some q
    have h2 := List.mem_of_find?_eq_some q
    exact ⟨e, h2, by rw [← of_decide_eq_true h1]⟩
end
def kst (s t : Nat) : List Key := [.inl (s : Int), .inl (t : Int)]
theorem kst_inj {s t s' t' : Nat} (h : kst s t = kst s' t') : s = s' ∧ t = t' := by
  unfold kst at h
  simp only [List.cons.injEq, Sum.inl.injEq, and_true] at h
  omega
theorem inD_T {neg : Bool} {kvs : List (List Key × D)} {s t : Nat} : inG neg (.fz (.tup [.int (s : Int), .int (t : Int)])) (.oT kvs) = some (.fz (.bl (if neg then !(valG kvs (kst s t)).isSome else (valG kvs (kst s t)).isSome))) := rfl
theorem ixS_T {kvs : List (List Key × D)} {s t : Nat} {e : D} (h : valG kvs (kst s t) = some e) : ixS (.oT kvs) (.fz (.tup [.int (s : Int), .int (t : Int)])) = some (.fz e) := by
  show ixD (.oT kvs) (.fz (.tup [.int (s : Int), .int (t : Int)])) = _
  have : dLook (.oT kvs) (.tup [.int (s : Int), .int (t : Int)]) = some (some e) := by
    show some (valG kvs (kst s t)) = _
    rw [h]
  show (match dLook (Sl.oT kvs) (D.tup [.int (s : Int), .int (t : Int)]) with | some (some e) => some (Sl.fz e) | _ => none) = _
  rw [this]
theorem setS_T {kvs : List (List Key × D)} {s t : Nat} {e : D} (h : kvs.length ≤ 100000) : setS (.oT kvs) (.fz (.tup [.int (s : Int), .int (t : Int)])) e = some (.oT (putG kvs (kst s t) e)) := by
  show (if kvs.length ≤ 100000 then _ else _) = _
  rw [if_pos h]; rfl
theorem inD_K {kvs : List (Key × D)} {s : Int} : inG false (.fz (.int s)) (.oK kvs) = some (.fz (.bl (valG kvs (.inl s)).isSome)) := rfl
theorem setS_K {kvs : List (Key × D)} {s : Int} {e : D} (h : kvs.length ≤ 100000) : setS (.oK kvs) (.fz (.int s)) e = some (.oK (putG kvs (.inl s) e)) := by
  show (if kvs.length ≤ 100000 then _ else _) = _
  rw [if_pos h]
/-! ### the small ones -/
section
variable (A : Ad)
theorem e__law_cell (ns : List Int) : ∃ c : Int, g__law_cell A [.scr (ns.map .int), .int 0] = some (.val (.fz (.int c))) := by
  cases ns with
  | nil =>
    refine ⟨0, gDef_rt rfl ?_⟩
    show fSeq _ _ [.fz (.scr []), .fz (.int 0)] = _
    simp -implicitDefEqProofs
  | cons a r =>
    refine ⟨a, gDef_rt rfl ?_⟩
    show fSeq _ _ [.fz (.scr ((a :: r).map .int)), .fz (.int 0)] = _
    have : (0 : Int) < ((r.length : Int) + 1) := by omega
    simp -implicitDefEqProofs [this]
theorem e__law_whole (n : Int) : g__law_whole A [.int n] = some (.val (.fz (.bl true))) := by
  refine gDef_rt rfl ?_
  show fRet _ [.fz (.int n)] = _
  simp -implicitDefEqProofs [isi_int, isi_int_bool]
theorem e__law_strength (c : Int) (m : Nat) : ∃ s : Int, g__law_strength A [.int c, .int (m : Nat)] = some (.val (.fz (.int s))) := by
  by_cases q : m = 0
  · subst q
    have p1 : cPow 10 30 := cPow_of (by decide) (by decide) (by decide)
    have p2 : cMul 2 (10 ^ 30) := cMul_l (by decide)
    have p3 : cMod c (2 * 10 ^ 30 + 1) := cMod_of (by decide)
    refine ⟨c % (2 * 10 ^ 30 + 1) - 10 ^ 30, gDef_rt rfl ?_⟩
    show fSeq _ _ [.fz (.int c), .fz (.int 0)] = _
    simp -implicitDefEqProofs only [ev_seq, ev_ifS, ev_T, ev_op, ev_varB, ev_c, List.getElem?_cons_succ, List.getElem?_cons_zero, bnd_val, ev_eqI, pur_some, ev_asB, bndS_val, decide_true, if_true, ev_ret, ev_pow, if_pos p1, Int.reduceToNat, ev_mul, if_pos p2, ev_addA, ev_mod, if_pos p3, ev_sub]
  · have p2 : cMul 2 (m : Int) := cMul_l (by decide)
    have p3 : cMod c (2 * (m : Int) + 1) := cMod_of (by omega)
    refine ⟨c % (2 * (m : Int) + 1) - m, gDef_rt rfl ?_⟩
    show fSeq _ _ [.fz (.int c), .fz (.int (m : Nat))] = _
    simp -implicitDefEqProofs [q, p2, p3]
theorem e__law_copy (P : List Col) (hp : P.length ≤ 6) : g__law_copy A [patD P] = some (.val (.oL (P.map colD))) := by
  refine gDef_rt rfl ?_
  show fRet _ [.fz (patD P), .un] = _
  rw [ev_ret, lcL (xs := P) (enc := colD) (g := colD) (by simp -implicitDefEqProofs [patD]) (by omega) fun c hc => by simp -implicitDefEqProofs [le1__law_copy, colD]]
  simp -implicitDefEqProofs
end
end FN

set_option Elab.async false
set_option linter.all false
set_option maxRecDepth 100000
set_option maxHeartbeats 2000000
/-! What the law asks of the paper; the law. -/
namespace FN
open PySem PySem.Spec PyProof.Rows L2
theorem rng_dec : ∀ c : Nat, c < 19 → ∀ l : Nat, l < 64 → ∀ k : Nat, k < c → Builtin.Range.small (1 + (k : Int)) (l : Int) (c : Int) = true ∧ 0 ≤ Builtin.Range.rangeSize (1 + (k : Int)) (l : Int) (c : Int) ∧ (Builtin.Range.rangeSize (1 + (k : Int)) (l : Int) (c : Int)).toNat ≤ 63 ∧ ∀ t : Nat, t < (Builtin.Range.rangeSize (1 + (k : Int)) (l : Int) (c : Int)).toNat → 1 + k + t * c < l := by decide +kernel
theorem rng_dec2 : ∀ r : Nat, r < 4 → 0 < r → ∀ p : Nat, p < 7 → Builtin.Range.small 0 ((p * (2 * r - 1) : Nat) : Int) ((2 * r - 1 : Nat) : Int) = true ∧ Builtin.Range.rangeSize 0 ((p * (2 * r - 1) : Nat) : Int) ((2 * r - 1 : Nat) : Int) = (p : Int) := by decide +kernel
theorem rng3_of {i j c : Int} (h1 : c ≠ 0) (h2 : c.natAbs < 1073741824) (h3 : Builtin.Range.small i j c = true) (h4 : 0 ≤ Builtin.Range.rangeSize i j c) : rng3 [.fz (.int i), .fz (.int j), .fz (.int c)] = some ((List.range (Builtin.Range.rangeSize i j c).toNat).map fun (k : Nat) => D.int (i + (k : Nat) * c)) := by
  show (if _ then _ else _) = _
  rw [if_pos ⟨h1, h2, h3, h4⟩]
theorem gSum_ints {ns : List Int} : gSum [.oL (ns.map .int)] = some (.fz (.int ns.sum)) := gSum_of rfl
section
variable (A : Ad)
theorem e_cell (ns : List Int) (hl : ns.length ≤ 63) {c k : Nat} (hc : c < 19) (hk : k < c) {ρ : Env} {h : Env → Option (R (List Sl))} {e : Env → Option (R Sl)} {i : Nat} {vs : List Nat} (hh : h ρ = some (.val [.fz (.int (1 + (k : Int))), .fz (.int (ns.length : Nat)), .fz (.int (c : Nat))])) (he : ∀ j : Nat, e ((wipeD ρ vs).set i (.fz (.int (j : Int)))) = pur ((atI (ns.map D.int) (j : Int)).map .fz)) :
    ∃ s : Int, fCB gSum (fConsB (fLc (fRng rng3 h) vs (gdN i) (fYes) e) (fNil)) ρ = some (.val (.fz (.int s))) := by
  obtain ⟨h1, h2, h3, h4⟩ := rng_dec c hc ns.length (by omega) k hk
  generalize hz : (Builtin.Range.rangeSize (1 + (k : Int)) (ns.length : Int) (c : Int)).toNat = z at *
  refine ⟨((List.range z).map fun t => ns.getD (1 + k + t * c) 0).sum, ?_⟩
  have hr : fRng rng3 h ρ = some (.val ((List.range z).map fun (t : Nat) => D.int (((1 + k + t * c : Nat) : Int)))) := by
    rw [ev_rng, hh, bnd_val, rng3_of (by omega) (by omega) h1 h2, hz, pur_some]
    congr 2
  rw [ev_cb, ev_consB, lcL (xs := List.range z) (enc := fun (t : Nat) => D.int (((1 + k + t * c : Nat) : Int))) (g := fun t => .int (ns.getD (1 + k + t * c) 0)) hr (by simp; omega) fun t ht => by
    have hlt := h4 t (List.mem_range.mp ht)
    rw [he, getD_int hlt]; rfl]
  rw [bnd_val, ev_nil, bnd_val, bnd_val]
  have := gSum_ints (ns := (List.range z).map fun t => ns.getD (1 + k + t * c) 0)
  rw [List.map_map] at this
  show pur (gSum [.oL (List.map (D.int ∘ fun t => ns.getD (1 + k + t * c) 0) (List.range z))]) = _
  rw [this]; rfl
theorem e__law_pattern (ns : List Int) (hl : ns.length ≤ 63) (rows per mode : Nat) (h1 : 1 ≤ rows) (h3 : rows ≤ 3) (p1 : 1 ≤ per) (p6 : per ≤ 6) (hc : per * (2 * rows - 1) < 19) :
    ∃ P : List Col, Pat rows P ∧ P.length = per ∧ g__law_pattern A [.scr (ns.map .int), .int (rows : Nat), .int (per : Nat), .int (mode : Nat)] = some (.val (.oL (P.map colD))) := by
  let R0 : Env := [.fz (.scr (ns.map .int)), .fz (.int (rows : Nat)), .fz (.int (per : Nat)), .fz (.int (mode : Nat)), .fz (.int ((per * (2 * rows - 1) : Nat) : Int))]
  have cE : (per : Int) * (2 * (rows : Int) - 1) = ((per * (2 * rows - 1) : Nat) : Int) := by
    rw [Int.natCast_mul]; congr 1; omega
  have wE : (2 * (rows : Int) - 1) = ((2 * rows - 1 : Nat) : Int) := by omega
  obtain ⟨q1, q2⟩ := rng_dec2 rows (by omega) (by omega) per (by omega)
  generalize hcnt : per * (2 * rows - 1) = cnt at *
  -- the strengths
  obtain ⟨⟨told, z⟩, hf1, hI1⟩ := forP (n := cnt) (it := fRng rng1 (fConsB (fVarB 4) (fNil))) (b := lb1__law_pattern A) (i := 6)
    (fun k (p : List Int × Sl × Sl) => [.fz (.scr (ns.map .int)), .fz (.int (rows : Nat)), .fz (.int (per : Nat)), .fz (.int (mode : Nat)), .fz (.int (cnt : Nat)), .oL (p.1.map .int), p.2.1, .un, p.2.2, .un])
    (fun k p => p.1.length = k) (fun k => .int (k : Nat)) ([], .un, .un) (rng_tab (by simp -implicitDefEqProofs) (by omega)) rfl (by
      rintro k ⟨told, z1, z2⟩ hk hI
      dsimp only at hI
      obtain ⟨s, hs⟩ := e_cell ns hl (c := cnt) (k := k) hc hk (ρ := [.fz (.scr (ns.map .int)), .fz (.int (rows : Nat)), .fz (.int (per : Nat)), .fz (.int (mode : Nat)), .fz (.int (cnt : Nat)), .oL (told.map .int), .fz (.int (k : Nat)), .un, z2, .un]) (h := fConsB (fOp oAddA (fC (.int 1)) (fVarB 6)) (fConsB (fCB gLen (fConsB (fVarB 0) (fNil))) (fConsB (fVarB 4) (fNil)))) (e := le1__law_pattern A) (i := 9) (vs := [9]) (by simp -implicitDefEqProofs) (fun j => by simp -implicitDefEqProofs [le1__law_pattern])
      obtain ⟨v, hv⟩ := e__law_strength A s mode
      refine ⟨(told ++ [v], .fz (.int (k : Nat)), .fz (.int s)), ?_, by simp [hI]⟩
      show lb1__law_pattern A [.fz (.scr (ns.map .int)), .fz (.int (rows : Nat)), .fz (.int (per : Nat)), .fz (.int (mode : Nat)), .fz (.int (cnt : Nat)), .oL (told.map .int), .fz (.int (k : Nat)), .un, z2, .un] = _
      unfold lb1__law_pattern
      refine (seq_nx (ρ' := [.fz (.scr (ns.map .int)), .fz (.int (rows : Nat)), .fz (.int (per : Nat)), .fz (.int (mode : Nat)), .fz (.int (cnt : Nat)), .oL (told.map .int), .fz (.int (k : Nat)), .un, .fz (.int s), .un]) (by rw [ev_asgZ, hs]; simp -implicitDefEqProofs)).trans ?_
      simp -implicitDefEqProofs [hv, show told.length ≤ 100000 by omega])
  dsimp only at hI1
  -- the columns
  obtain ⟨⟨P, z2⟩, hf2, hP1, hP2⟩ := forP (n := per) (it := fRng rng3 (fConsB (fC (.int 0)) (fConsB (fVarB 4) (fConsB (fOp oSub (fOp oMul (fC (.int 2)) (fVarB 1)) (fC (.int 1))) (fNil))))) (b := lb2__law_pattern A) (i := 6)
    (fun k (p : List Col × Sl) => [.fz (.scr (ns.map .int)), .fz (.int (rows : Nat)), .fz (.int (per : Nat)), .fz (.int (mode : Nat)), .fz (.int (cnt : Nat)), .oL (told.map .int), p.2, .oL (p.1.map colD), z.2, .un])
    (fun k p => p.1.length = k ∧ ∀ c ∈ p.1, c.2.length = rows ∧ c.1.length + 1 = rows) (fun k => .int ((k * (2 * rows - 1) : Nat) : Int)) ([], z.1) (by
      rw [ev_rng]
      have m1 : cMul (2 : Int) (rows : Int) := cMul_l (by decide)
      have : (fConsB (fC (.int 0)) (fConsB (fVarB 4) (fConsB (fOp oSub (fOp oMul (fC (.int 2)) (fVarB 1)) (fC (.int 1))) (fNil)))) [.fz (.scr (ns.map .int)), .fz (.int (rows : Nat)), .fz (.int (per : Nat)), .fz (.int (mode : Nat)), .fz (.int (cnt : Nat)), .oL (told.map .int), z.1, .oL (([] : List Col).map colD), z.2, .un] = some (.val [.fz (.int 0), .fz (.int (cnt : Nat)), .fz (.int ((2 * rows - 1 : Nat) : Int))]) := by
        rw [← wE]; simp -implicitDefEqProofs [m1]
      dsimp only
      rw [this, bnd_val, rng3_of (by omega) (by omega) q1 (by omega), q2, Int.toNat_natCast, pur_some]
      exact congrArg (fun l => some (R.val l)) (List.map_congr_left fun t _ => by rw [Int.zero_add, Int.natCast_mul])) ⟨rfl, fun c hc => by simp at hc⟩ (by
      rintro k ⟨P, z3⟩ hk ⟨i1, i2⟩
      dsimp only at i1 i2
      let w := 2 * rows - 1
      have hkw : k * w + w ≤ cnt := by
        rw [← hcnt, ← Nat.succ_mul]; exact Nat.mul_le_mul_right _ hk
      let c : Col := ((told.drop (k * w)).take (rows - 1), (told.drop (k * w + rows - 1)).take rows)
      have hww : w = 2 * rows - 1 := rfl
      refine ⟨(P ++ [c], .fz (.int ((k * w : Nat) : Int))), ?_, by simp [i1], fun c' hc' => ?_⟩
      · show lb2__law_pattern A [.fz (.scr (ns.map .int)), .fz (.int (rows : Nat)), .fz (.int (per : Nat)), .fz (.int (mode : Nat)), .fz (.int (cnt : Nat)), .oL (told.map .int), .fz (.int ((k * w : Nat) : Int)), .oL (P.map colD), z.2, .un] = _
        have s1 : sliceS (some ((k * w : Nat) : Int)) (some ((k * w : Nat) + (rows : Int) - 1)) (.oL (told.map D.int)) = some (.oL (c.1.map .int)) := by
          show some (Sl.oL (cutG _ _ _)) = _
          rw [show (((k * w : Nat) : Int) + (rows : Int) - 1) = ((k * w + rows - 1 : Nat) : Int) by omega, cutG_nat (by omega) (by simp; omega), ← List.map_drop, ← List.map_take, show k * w + rows - 1 - k * w = rows - 1 by omega]
        have s2 : sliceS (some ((k * w : Nat) + (rows : Int) - 1)) (some ((k * w : Nat) + 2 * (rows : Int) - 1)) (.oL (told.map D.int)) = some (.oL (c.2.map .int)) := by
          show some (Sl.oL (cutG _ _ _)) = _
          rw [show (((k * w : Nat) : Int) + (rows : Int) - 1) = ((k * w + rows - 1 : Nat) : Int) by omega, show (((k * w : Nat) : Int) + 2 * (rows : Int) - 1) = ((k * w + 2 * rows - 1 : Nat) : Int) by omega, cutG_nat (by omega) (by simp; omega), ← List.map_drop, ← List.map_take, show k * w + 2 * rows - 1 - (k * w + rows - 1) = rows by omega]
        have m1 : cMul (2 : Int) (rows : Int) := cMul_l (by decide)
        generalize ((k * w : Nat) : Int) = kw at s1 s2 ⊢
        have hcd : D.tup [.lst (c.1.map .int), .lst (c.2.map .int)] = colD c := rfl
        unfold lb2__law_pattern
        simp -implicitDefEqProofs [s1, s2, m1, hcd, show P.length ≤ 100000 by omega]
      · rcases List.mem_append.mp hc' with h | h
        · exact i2 c' h
        · have : c' = c := by simpa using h
          subst this
          constructor
          · show ((told.drop (k * w + rows - 1)).take rows).length = rows
            simp; omega
          · show ((told.drop (k * w)).take (rows - 1)).length + 1 = rows
            simp; omega)
  dsimp only at hP1 hP2
  refine ⟨P, ⟨h1, h3, by omega, by omega, fun c hc => (hP2 c hc).1, fun c hc => (hP2 c hc).2⟩, hP1, gDef_rt rfl ?_⟩
  show fSeq _ _ [.fz (.scr (ns.map .int)), .fz (.int (rows : Nat)), .fz (.int (per : Nat)), .fz (.int (mode : Nat)), .un, .un, .un, .un, .un, .un] = _
  have m1 : cMul (2 : Int) (rows : Int) := cMul_l (by decide)
  have m2 : cMul (per : Int) (2 * (rows : Int) - 1) := cMul_l (by omega)
  refine (seq_nx (ρ' := [.fz (.scr (ns.map .int)), .fz (.int (rows : Nat)), .fz (.int (per : Nat)), .fz (.int (mode : Nat)), .fz (.int (cnt : Nat)), .un, .un, .un, .un, .un]) (by simp -implicitDefEqProofs [m1, m2, cE])).trans ?_
  refine (seq_nx (ρ' := [.fz (.scr (ns.map .int)), .fz (.int (rows : Nat)), .fz (.int (per : Nat)), .fz (.int (mode : Nat)), .fz (.int (cnt : Nat)), .oL [], .un, .un, .un, .un]) (by simp -implicitDefEqProofs)).trans ?_
  refine (seq_nx hf1).trans ?_
  refine (seq_nx (ρ' := [.fz (.scr (ns.map .int)), .fz (.int (rows : Nat)), .fz (.int (per : Nat)), .fz (.int (mode : Nat)), .fz (.int (cnt : Nat)), .oL (told.map .int), z.1, .oL [], z.2, .un]) (by simp -implicitDefEqProofs)).trans ?_
  refine (seq_nx hf2).trans ?_
  simp -implicitDefEqProofs
end
end FN

set_option Elab.async false
set_option linter.all false
set_option maxRecDepth 100000
set_option maxHeartbeats 2000000
/-! Powers of tables; a strip's least worth. -/
namespace FN
open PySem PySem.Spec PyProof.Rows L2
theorem mn_exch {n : Nat} (hn : 0 < n) (F H : Nat → Int) (G : Nat → Nat → Int) : mn n (fun w => F w + mn n fun x => G w x + H x) = mn n fun x => mn n (fun w => F w + G w x) + H x := by
  have key : ∀ i x, i < n → x < n → mn n (fun x => mn n (fun w => F w + G w x) + H x) ≤ F i + (G i x + H x) := fun i x hi hx => by
    have h1 := mn_le (f := fun x => mn n (fun w => F w + G w x) + H x) hx
    have h2 := mn_le (f := fun w => F w + G w x) hi
    omega
  obtain ⟨x0, hx0, e1⟩ := mn_at (fun x => mn n (fun w => F w + G w x) + H x) hn
  obtain ⟨w0, hw0, e2⟩ := mn_at (fun w => F w + G w x0) hn
  refine mn_uniq ⟨w0, hw0, ?_⟩ fun i hi => ?_
  · obtain ⟨x1, hx1, e3⟩ := mn_at (fun x => G w0 x + H x) hn
    have h1 := key w0 x1 hw0 hx1
    have h2 := mn_le (f := fun x => G w0 x + H x) hx0
    omega
  · obtain ⟨x1, hx1, e3⟩ := mn_at (fun x => G i x + H x) hn
    have h1 := key i x1 hi hx1
    omega
/-- the table of k + 1 repeats -/
def Pw (n : Nat) (C : Nat → Nat → Int) : Nat → Nat → Nat → Int
  | 0 => C
  | k + 1 => fun u v => mn n fun w => Pw n C k u w + C w v
theorem Pw_add {n : Nat} (hn : 0 < n) {C : Nat → Nat → Int} (i : Nat) : ∀ (j u v : Nat), (mn n fun w => Pw n C i u w + Pw n C j w v) = Pw n C (i + j + 1) u v
  | 0, u, v => rfl
  | j + 1, u, v => by
    show (mn n fun w => Pw n C i u w + mn n fun x => Pw n C j w x + C x v) = mn n fun x => Pw n C (i + j + 1) u x + C x v
    rw [mn_exch hn]
    exact mn_congr hn fun x _ => by rw [Pw_add hn i j u x]
theorem Pw_Wk {n : Nat} (hn : 0 < n) {C : Nat → Nat → Int} : ∀ (k v : Nat), (mn n fun u => 0 + Pw n C k u v) = Wk n C (k + 1) v
  | 0, v => rfl
  | k + 1, v => by
    show (mn n fun u => 0 + mn n fun w => Pw n C k u w + C w v) = mn n fun w => Wk n C (k + 1) w + C w v
    rw [mn_exch hn]
    exact mn_congr hn fun x _ => by rw [Pw_Wk hn k x]
section
variable {n : Nat} (hn : 0 < n) {R C : Nat → Nat → Int} {S : Nat → Int}
include hn
theorem W_low {M : Int} (hp : ∀ u v, u < n → v < n → S v ≤ S u + R u v) (hM : ∀ u, u < n → S u ≤ M) : ∀ (m v : Nat), v < n → S v - M ≤ Wk n R m v
  | 0, v, hv => by
    have := hM v hv
    show S v - M ≤ 0; omega
  | m + 1, v, hv => by
    obtain ⟨u, hu, e⟩ := mn_at (fun u => Wk n R m u + R u v) hn
    have h1 := W_low hp hM m u hu
    have h2 := hp u v hu hv
    show S v - M ≤ mn n fun u => Wk n R m u + R u v
    omega
theorem W_high {T : Nat → Nat → Bool} {L : List Nat} (hL : Loop n T L) (hT : ∀ u v, T u v = true → R u v = S v - S u) : ∃ v0, v0 < n ∧ ∀ m : Nat, ∃ (k : Nat) (v : Nat), L[k]? = some v ∧ Wk n R m v ≤ S v - S v0 := by
  obtain ⟨l0, _, hl, hc⟩ := hL
  obtain ⟨v0, hv0⟩ : ∃ v0, L[0]? = some v0 := ⟨L[0], by simp⟩
  refine ⟨v0, hl v0 (List.mem_of_getElem? hv0), fun m => ?_⟩
  induction m with
  | zero => exact ⟨0, v0, hv0, by show (0 : Int) ≤ _; omega⟩
  | succ m ih =>
    obtain ⟨k, u, hk, h⟩ := ih
    have hkl : k < L.length := (List.getElem?_eq_some_iff.mp hk).1
    have hu := hl u (List.mem_of_getElem? hk)
    have next : ∃ (k' : Nat) (v : Nat), L[k']? = some v ∧ T u v = true := by
      by_cases q : k + 1 < L.length
      · obtain ⟨u', v, e1, e2, e3⟩ := hc (k + 1) q
        rw [if_neg (by omega), show k + 1 - 1 = k by omega, hk] at e1
        cases e1
        exact ⟨k + 1, v, e2, e3⟩
      · obtain ⟨u', v, e1, e2, e3⟩ := hc 0 l0
        rw [if_pos rfl, show L.length - 1 = k by omega, hk] at e1
        cases e1
        exact ⟨0, v, e2, e3⟩
    obtain ⟨k', v, hv, ht⟩ := next
    refine ⟨k', v, hv, ?_⟩
    have h1 := hT u v ht
    have h2 : Wk n R (m + 1) v ≤ Wk n R m u + R u v := mn_le (f := fun u => Wk n R m u + R u v) hu
    omega
theorem W_mono (hC : ∀ u v, u < n → v < n → 0 ≤ C u v) : ∀ (m v : Nat), v < n → Wk n C m v ≤ Wk n C (m + 1) v
  | 0, v, hv => by
    obtain ⟨u, hu, e⟩ := mn_at (fun u => Wk n C 0 u + C u v) hn
    have := hC u v hu hv
    show (0 : Int) ≤ mn n fun u => Wk n C 0 u + C u v
    rw [e]
    show (0 : Int) ≤ 0 + C u v
    omega
  | m + 1, v, hv => by
    obtain ⟨u, hu, e⟩ := mn_at (fun u => Wk n C (m + 1) u + C u v) hn
    have h1 := W_mono hC m u hu
    have h2 : Wk n C (m + 1) v ≤ Wk n C m u + C u v := mn_le (f := fun u => Wk n C m u + C u v) hu
    show Wk n C (m + 1) v ≤ mn n fun u => Wk n C (m + 1) u + C u v
    omega
end
theorem paid_0 (s : Int) (d : Bool) : 0 ≤ paid s d := by
  unfold paid
  split
  · omega
  · split <;> omega
theorem paid_abs (s : Int) (d : Bool) : paid s d ≤ if s < 0 then -s else s := by unfold paid; split <;> split <;> first | omega | (split <;> omega)
theorem sm_0le {f : Nat → Int} (h : ∀ i, 0 ≤ f i) : ∀ n, 0 ≤ sm n f
  | 0 => Int.le_refl _
  | n + 1 => by rw [sm_succ]; have := h n; have := sm_0le h n; omega
theorem sm_le {f g : Nat → Int} (h : ∀ i, f i ≤ g i) : ∀ n, sm n f ≤ sm n g
  | 0 => Int.le_refl _
  | n + 1 => by rw [sm_succ, sm_succ]; have := h n; have := sm_le h n; omega
theorem acr_0 (c : Col) (x : Nat) : 0 ≤ acr c x := sm_0le (fun _ => paid_0 _ _) _
theorem alo_0 (c : Col) (x y : Nat) : 0 ≤ alo c x y := sm_0le (fun _ => paid_0 _ _) _
def absI (s : Int) : Int := if s < 0 then -s else s
theorem range_getD (L : List Int) : (List.range L.length).map (fun r => L.getD r 0) = L := by
  apply List.ext_getElem (by simp)
  intro i h1 h2
  simp at h1 h2 ⊢
  rw [List.getElem?_eq_getElem h2]; rfl
theorem acr_le (c : Col) (x : Nat) : acr c x ≤ (c.1.map absI).sum := by
  have h : acr c x ≤ sm c.1.length fun r => absI (c.1.getD r 0) := sm_le (fun r => paid_abs _ _) _
  have e : (c.1.map absI).sum = sm c.1.length fun r => absI (c.1.getD r 0) := by
    unfold sm
    have : (List.range c.1.length).map (fun r => absI (c.1.getD r 0)) = ((List.range c.1.length).map (fun r => c.1.getD r 0)).map absI := by rw [List.map_map]; rfl
    rw [this, range_getD]
  omega
theorem steps_0 {n : Nat} (hn : 0 < n) : ∀ (P : List Col) (u v : Nat), 0 ≤ stepsC n P u v := by
  intro P
  cases P with
  | nil => intro u v; exact Int.le_refl _
  | cons c cs =>
    have key : ∀ (cs : List Col) (L : Nat → Nat → Int), (∀ u v, 0 ≤ L u v) → ∀ u v, 0 ≤ cs.foldl (joinC n) L u v := by
      intro cs
      induction cs with
      | nil => intro L h; exact h
      | cons d cs ih =>
        intro L h
        refine ih (joinC n L d) fun u v => ?_
        obtain ⟨w, hw, e⟩ := mn_at (fun w => L u w + stepC d w v) hn
        have h1 := h u w
        have h2 : 0 ≤ stepC d w v := by have := acr_0 d w; have := alo_0 d w v; unfold stepC; omega
        show 0 ≤ mn n fun w => L u w + stepC d w v
        omega
    exact key cs (stepC c) fun u v => by have := acr_0 c u; have := alo_0 c u v; unfold stepC; omega
/-! ### the functions -/
section
variable (A : Ad) {n : Nat} (h0 : 0 < n) (h8 : n ≤ 8)
include h0 h8
theorem e_by_modulus (f m : Nat → Int) : g_by_modulus A [tr n f m, .int 1000000000] = some (.val (.oL (tab n fun v => .tup [.int (f v), .int (m v % 1000000000)]))) := by
  refine gDef_rt rfl ?_
  show fRet _ [.fz (tr n f m), .fz (.int 1000000000), .un] = _
  rw [ev_ret, lcT (n := n) (e := fun v => .tup [.int (f v), .int (m v)]) (g := fun v => .tup [.int (f v), .int (m v % 1000000000)]) (by simp -implicitDefEqProofs) (by omega) fun v hv => by
    have : cMod (m v) 1000000000 := cMod_of (by decide)
    simp -implicitDefEqProofs [le1_by_modulus, this]]
  simp -implicitDefEqProofs
def foundD (n : Nat) (C : Nat → Nat → Int) (f : Nat) (M : Nat → Nat → Int) : D := if f = 0 then .non else tm n (Pw n C (f - 1)) M
theorem tm_congr {C C' M M' : Nat → Nat → Int} (h : ∀ u v, C u v = C' u v) (h2 : ∀ u v, M u v = M' u v) : tm n C M = tm n C' M' := by
  have e1 : C = C' := by funext u v; exact h u v
  have e2 : M = M' := by funext u v; exact h2 u v
  rw [e1, e2]
theorem e_join_pw (C : Nat → Nat → Int) (i j : Nat) (M M' : Nat → Nat → Int) (hm : ∀ u v, u < n → v < n → Cnt (M u v)) (hm' : ∀ u v, u < n → v < n → Cnt (M' u v)) :
    ∃ m' : Nat → Nat → Int, (∀ u v, u < n → v < n → Cnt (m' u v)) ∧ g_tables_joined A [tm n (Pw n C i) M, tm n (Pw n C j) M', .int 1000000000] = some (.val (.oL (tab n fun s => tr n (Pw n C (i + j + 1) s) (m' s)))) := by
  obtain ⟨m', h1, h2⟩ := e_tables_joined A h0 h8 (Pw n C i) M (Pw n C j) M' hm hm'
  refine ⟨m', h1, h2.trans ?_⟩
  congr 3
  refine tab_congr fun s _ => ?_
  have : (fun v => mn n fun u => Pw n C i s u + Pw n C j u v) = Pw n C (i + j + 1) s := by
    funext v; exact Pw_add h0 i j s v
  rw [this]
theorem e_table_power (C M : Nat → Nat → Int) (hM : ∀ u v, u < n → v < n → Cnt (M u v)) (t : Nat) (ht : 0 < t) :
    ∃ M' : Nat → Nat → Int, (∀ u v, u < n → v < n → Cnt (M' u v)) ∧ g_table_power A [tm n C M, .int (t : Nat), .int 1000000000] = some (.val (.fz (tm n (Pw n C (t - 1)) M'))) := by
  let E : Nat → Nat → (Nat → Nat → Int) → D → Env := fun times q Mq F => [.fz (tm n C M), .fz (.int (times : Nat)), .fz (.int 1000000000), .fz (tm n (Pw n C q) Mq), .fz F, .un]
  let Ok : (Nat → Nat → Int) → Prop := fun M => ∀ u v, u < n → v < n → Cnt (M u v)
  obtain ⟨ρ', h1, q, Mq, Mf, hf, rfl⟩ := while_inv (c := wt1_table_power A) (b := wb1_table_power A)
    (fun ρ => ∃ times q f Mq Mf, (q + 1) * times + f = t ∧ Ok Mq ∧ Ok Mf ∧ ρ = E times q Mq (foundD n C f Mf))
    (fun ρ : Env => match ρ[1]? with | some (Sl.fz (D.int b)) => b.toNat | _ => 0)
    (fun ρ => ∃ q Mq Mf, Ok Mf ∧ ρ = E 0 q Mq (foundD n C t Mf)) (by
    rintro ρ ⟨times, q, f, Mq, Mf, hi, hq, hf, rfl⟩
    by_cases z : times = 0
    · subst z
      refine ⟨false, by simp -implicitDefEqProofs [E, wt1_table_power], ?_⟩
      rw [if_neg Bool.false_ne_true]
      refine ⟨q, Mq, Mf, hf, ?_⟩
      rw [show f = t by rw [← hi, Nat.mul_zero, Nat.zero_add]]
    · refine ⟨true, by simp -implicitDefEqProofs [E, wt1_table_power]; omega, ?_⟩
      rw [if_pos rfl]
      obtain ⟨M2, hM2, ej⟩ := e_join_pw A h0 h8 C q q Mq Mq hq hq
      -- the second half
      have half : ∀ (F : D), ∃ q' Mq', Ok Mq' ∧ (q' + 1) * (times / 2) = (q + 1) * (2 * (times / 2)) ∧ fSeq (fAsgZ 1 (fOp oShr (fVarB 1) (fC (.int 1)))) (fIfS (fT (fOp oGt (fVarB 1) (fC (.int 0)))) (fAsgZ 3 (fCall (g_tables_joined A) (fCons (fVar 3) (fCons (fVar 3) (fCons (fVar 2) (fNil)))))) (fNext)) (E times q Mq F) = some (.nx (E (times / 2) q' Mq' F)) := fun F => by
        have c1 : cShr (times : Int) 1 := cShr_of (by decide)
        have st : fAsgZ 1 (fOp oShr (fVarB 1) (fC (.int 1))) (E times q Mq F) = some (.nx (E (times / 2) q Mq F)) := by simp -implicitDefEqProofs [E, c1]
        generalize times / 2 = h at *
        by_cases z2 : h = 0
        · subst z2
          refine ⟨q, Mq, hq, by simp, (seq_nx st).trans ?_⟩
          simp -implicitDefEqProofs [E]
        · refine ⟨q + q + 1, M2, hM2, by rw [← Nat.mul_assoc]; congr 1; omega, (seq_nx st).trans ?_⟩
          have : 0 < h := by omega
          simp -implicitDefEqProofs [E, this, ej]
      have bitE : Builtin.bitAnd (times : Int) 1 = ((times % 2 : Nat) : Int) := by rw [PyProof.Rows.bitAnd_m1, Int.natCast_emod]; rfl
      have md : times / 2 < times := by omega
      have hdm : times = 2 * (times / 2) + times % 2 := by omega
      unfold wb1_table_power
      by_cases od : times % 2 = 1
      · by_cases zf : f = 0
        · subst zf
          obtain ⟨q', Mq', hq', hqe, hh⟩ := half (foundD n C (q + 1) Mq)
          refine ⟨_, .inl ((seq_nx (ρ' := E times q Mq (foundD n C (q + 1) Mq)) ?_).trans hh), ⟨times / 2, q', q + 1, Mq', Mq, ?_, hq', hq, rfl⟩, ?_⟩
          · have : foundD n C 0 Mf = .non := rfl
            have e2 : foundD n C (q + 1) Mq = tm n (Pw n C q) Mq := by unfold foundD; rw [if_neg (by omega)]; rfl
            rw [this, e2]
            simp -implicitDefEqProofs [E, bitE, od]
          · rw [hqe, ← hi]
            generalize times / 2 = h at hdm ⊢
            rw [show times = 2 * h + 1 by omega, Nat.mul_add, Nat.mul_one]; omega
          · show ((times / 2 : Nat) : Int).toNat < ((times : Nat) : Int).toNat
            simp only [Int.toNat_natCast]; exact md
        · obtain ⟨M3, hM3, ef⟩ := e_join_pw A h0 h8 C (f - 1) q Mf Mq hf hq
          obtain ⟨q', Mq', hq', hqe, hh⟩ := half (foundD n C (f + q + 1) M3)
          refine ⟨_, .inl ((seq_nx (ρ' := E times q Mq (foundD n C (f + q + 1) M3)) ?_).trans hh), ⟨times / 2, q', f + q + 1, Mq', M3, ?_, hq', hM3, rfl⟩, ?_⟩
          · have e1 : foundD n C f Mf = tm n (Pw n C (f - 1)) Mf := by unfold foundD; rw [if_neg zf]
            have e2 : foundD n C (f + q + 1) M3 = tm n (Pw n C (f - 1 + q + 1)) M3 := by unfold foundD; rw [if_neg (by omega), show f + q + 1 - 1 = f - 1 + q + 1 by omega]
            have e3 : oIs (.fz (tm n (Pw n C (f - 1)) Mf)) (.fz .non) = some (.fz (.bl false)) := rfl
            rw [e1, e2]
            simp -implicitDefEqProofs [E, bitE, od, ef, e3]
          · rw [hqe, ← hi]
            generalize times / 2 = h at hdm ⊢
            rw [show times = 2 * h + 1 by omega, Nat.mul_add, Nat.mul_one]; omega
          · show ((times / 2 : Nat) : Int).toNat < ((times : Nat) : Int).toNat
            simp only [Int.toNat_natCast]; exact md
      · obtain ⟨q', Mq', hq', hqe, hh⟩ := half (foundD n C f Mf)
        refine ⟨_, .inl ((seq_nx (ρ' := E times q Mq (foundD n C f Mf)) ?_).trans hh), ⟨times / 2, q', f, Mq', Mf, ?_, hq', hf, rfl⟩, ?_⟩
        · have : times % 2 = 0 := by omega
          simp -implicitDefEqProofs [E, bitE, this]
        · rw [hqe, ← hi]
          generalize times / 2 = h at hdm ⊢
          rw [show times = 2 * h by omega]
        · show ((times / 2 : Nat) : Int).toNat < ((times : Nat) : Int).toNat
          simp only [Int.toNat_natCast]; exact md)
    (E t 0 (fun u v => M u v % 1000000000) (foundD n C 0 M)) ⟨t, 0, 0, _, M, by omega, fun u v _ _ => ⟨by omega, by omega⟩, hM, rfl⟩
  refine ⟨Mf, hf, gDef_rt rfl ?_⟩
  show fSeq _ _ [.fz (tm n C M), .fz (.int (t : Nat)), .fz (.int 1000000000), .un, .un, .un] = _
  refine (seq_nx (ρ' := [.fz (tm n C M), .fz (.int (t : Nat)), .fz (.int 1000000000), .fz (tm n C fun u v => M u v % 1000000000), .un, .un]) ?_).trans ?_
  · rw [ev_asgZ, lcT (n := n) (e := fun u => tr n (C u) (M u)) (g := fun u => tr n (C u) fun v => M u v % 1000000000) (by simp -implicitDefEqProofs) (by omega) fun u hu => by simp -implicitDefEqProofs [le1_table_power, e_by_modulus A h0 h8]]
    simp -implicitDefEqProofs
  refine (seq_nx (ρ' := E t 0 (fun u v => M u v % 1000000000) (foundD n C 0 M)) (by simp -implicitDefEqProofs [E, foundD]; rfl)).trans ?_
  refine (seq_nx h1).trans ?_
  have e1 : foundD n C t Mf = tm n (Pw n C (t - 1)) Mf := by unfold foundD; rw [if_neg (by omega)]
  simp -implicitDefEqProofs [E, e1]
end
end FN

set_option Elab.async false
set_option linter.all false
set_option maxRecDepth 100000
set_option maxHeartbeats 2000000
/-! A strip's least worth; the law. -/
namespace FN
open PySem PySem.Spec PyProof.Rows L2
/-- the least worth of a strip of m repeats and a column more -/
def lowS (n : Nat) (P : List Col) (m : Nat) : Int := mn n fun v => Wk n (stepsC n P) m v + acr (P.getD 0 ([], [])) v
section
variable (A : Ad) (hA : A.c_Pull ≠ A.c_Push) {rows : Nat} {P : List Col} (hP : Pat rows P)
include hA hP
theorem e_strip_least (m : Nat) (hm : m * P.length + 1 ≤ 1000000000000000000) : ∃ c : Int, g_strip_least A [patD P, .int ((m * P.length + 1 : Nat) : Int), .int 1000000000] = some (.val (.fz (.tup [.int (lowS (2 ^ rows) P m), .int c]))) := by
  have h8 : 2 ^ rows ≤ 8 := Nat.pow_le_pow_right (n := 2) (by omega) hP.r3
  have h0 : 0 < 2 ^ rows := Nat.pow_pos (by omega)
  have hr3 := hP.r3
  have hp1 := hP.p1
  have hp6 := hP.p6
  have hro := e_rows_of A hP
  obtain ⟨M, hM, hst⟩ := e_step_table A hP hA
  obtain ⟨c0, hc0⟩ : ∃ c0, P[0]? = some c0 := ⟨P[0], by simp⟩
  have hg0 : P.getD 0 ([], []) = c0 := by rw [List.getD_eq_getElem?_getD, hc0]; rfl
  have hac : ∀ v : Nat, g_across_price A [colD c0, .int (v : Nat)] = some (.val (.fz (.int (acr c0 v)))) := fun v => e_across A hA c0 v (by have := hP.across c0 (List.mem_of_getElem? hc0); omega)
  have hp : ((2 : Int) ^ rows) = ((2 ^ rows : Nat) : Int) := by rw [Int.natCast_pow]; rfl
  have hs0 : cPow (1 : Int) (rows : Int) := cPow_of (by omega) (by omega) (by decide)
  have hrow : ∃ R : Nat → Int, (∀ v, v < 2 ^ rows → Cnt (R v)) ∧ fIfS (fT (fOp oGt (fVarB 9) (fC (.int 0)))) (fAsgZ 4 (fCall (g_row_joined A) (fCons (fVar 4) (fCons (fCall (g_table_power A) (fCons (fCall (g_step_table A) (fCons (fVar 0) (fNil))) (fCons (fVar 9) (fCons (fVar 2) (fNil))))) (fCons (fVar 2) (fNil)))))) (fNext)
      [.fz (patD P), .fz (.int ((m * P.length + 1 : Nat) : Int)), .fz (.int 1000000000), .fz (.int (rows : Nat)), .fz (tr (2 ^ rows) (fun _ => 0) fun _ => 1), .un, .un, .un, .un, .fz (.int (m : Nat)), .fz (.int 0), .un] = some (.nx [.fz (patD P), .fz (.int ((m * P.length + 1 : Nat) : Int)), .fz (.int 1000000000), .fz (.int (rows : Nat)), .fz (tr (2 ^ rows) (Wk (2 ^ rows) (stepsC (2 ^ rows) P) m) R), .un, .un, .un, .un, .fz (.int (m : Nat)), .fz (.int 0), .un]) := by
    by_cases z : m = 0
    · subst z
      refine ⟨fun _ => 1, fun _ _ => cnt1, ?_⟩
      simp -implicitDefEqProofs
      rfl
    · obtain ⟨M', hM', ep⟩ := e_table_power A h0 h8 (stepsC (2 ^ rows) P) M hM m (by omega)
      obtain ⟨R, hR, er⟩ := e_row_joined A h0 h8 (fun _ => 0) (fun _ => 1) (Pw (2 ^ rows) (stepsC (2 ^ rows) P) (m - 1)) M' (fun _ _ => cnt1) hM'
      refine ⟨R, hR, ?_⟩
      have e : (fun v => mn (2 ^ rows) fun u => 0 + Pw (2 ^ rows) (stepsC (2 ^ rows) P) (m - 1) u v) = Wk (2 ^ rows) (stepsC (2 ^ rows) P) m := by
        funext v
        rw [Pw_Wk h0, show m - 1 + 1 = m by omega]
      have er' : g_row_joined A [tr (2 ^ rows) (fun _ => 0) fun _ => 1, tm (2 ^ rows) (Pw (2 ^ rows) (stepsC (2 ^ rows) P) (m - 1)) M', .int 1000000000] = some (.val (.oL (tab (2 ^ rows) fun v => .tup [.int (Wk (2 ^ rows) (stepsC (2 ^ rows) P) m v), .int (R v)]))) := by
        rw [← e]; exact er
      have : 0 < m := by omega
      generalize hcc : ((m * P.length + 1 : Nat) : Int) = cols
      simp -implicitDefEqProofs [this, hst, ep, er']
  obtain ⟨R, hR, hrow⟩ := hrow
  have hlow : lowS (2 ^ rows) P m = mn (2 ^ rows) fun v => Wk (2 ^ rows) (stepsC (2 ^ rows) P) m v + acr c0 v := by unfold lowS; rw [hg0]
  generalize hw : Wk (2 ^ rows) (stepsC (2 ^ rows) P) m = W at *
  generalize hcols : ((m * P.length + 1 : Nat) : Int) = cols at *
  have hdm : gDivmod [.fz (.int (cols - 1)), .fz (.int (P.length : Nat))] = some (.fz (.tup [.int (m : Nat), .int 0])) := by
    have c1 : cDiv (cols - 1) (P.length : Int) := cDiv_of (by omega) (Int.lt_of_le_of_lt (show (P.length : Int) ≤ 6 by omega) (by decide))
    have e : cols - 1 = (m : Int) * (P.length : Int) := by rw [← hcols, Int.natCast_add, Int.natCast_mul]; omega
    show (if _ then _ else _) = _
    rw [if_pos c1, e, Int.mul_ediv_cancel _ (by omega), Int.mul_emod_left]
  generalize hn : 2 ^ rows = n at *
  let low := mn n fun v => W v + acr c0 v
  refine ⟨((((List.range n).filter fun v => decide (W v + acr c0 v = low)).map R).sum) % 1000000000, gDef_rt rfl ?_⟩
  rw [hlow]
  show fSeq _ _ [.fz (patD P), .fz (.int cols), .fz (.int 1000000000), .un, .un, .un, .un, .un, .un, .un, .un, .un] = _
  refine (seq_nx (ρ' := [.fz (patD P), .fz (.int cols), .fz (.int 1000000000), .fz (.int (rows : Nat)), .un, .un, .un, .un, .un, .un, .un, .un]) (by simp -implicitDefEqProofs [hro])).trans ?_
  refine (seq_nx (ρ' := [.fz (patD P), .fz (.int cols), .fz (.int 1000000000), .fz (.int (rows : Nat)), .un, .un, .un, .un, .un, .un, .un, .un]) (by simp -implicitDefEqProofs [show (1 : Int) ≤ cols by omega, show cols ≤ 1000000000000000000 by omega])).trans ?_
  refine (seq_nx (ρ' := [.fz (patD P), .fz (.int cols), .fz (.int 1000000000), .fz (.int (rows : Nat)), .un, .un, .un, .un, .un, .fz (.int (m : Nat)), .fz (.int 0), .un]) (by simp -implicitDefEqProofs [patD, hdm, gdT2])).trans ?_
  have hrg : ∀ a b : Sl, (fConsB (fOp oShl (fC (.int 1)) (fVarB 3)) (fNil)) [.fz (patD P), .fz (.int cols), .fz (.int 1000000000), .fz (.int (rows : Nat)), a, .un, b, .un, .un, .fz (.int (m : Nat)), .fz (.int 0), .un] = some (.val [.fz (.int (n : Nat))]) := fun a b => by
    simp -implicitDefEqProofs [hs0, hp]
  refine (seq_nx (ρ' := [.fz (patD P), .fz (.int cols), .fz (.int 1000000000), .fz (.int (rows : Nat)), .fz (tr n (fun _ => 0) fun _ => 1), .un, .un, .un, .un, .fz (.int (m : Nat)), .fz (.int 0), .un]) ?_).trans ?_
  · rw [ev_asgZ, lcR (n := n) (g := fun v => .tup [.int 0, .int 1]) (hrg _ _) (by omega) fun v hv => by simp -implicitDefEqProofs [le1_strip_least]]
    simp -implicitDefEqProofs
  refine (seq_nx hrow).trans ?_
  have hfor : fFor (fItL (fSlice (fVarB 0) (fNoPart) (fPart (fVarB 10)))) (gdN 5) (lb1_strip_least A) [.fz (patD P), .fz (.int cols), .fz (.int 1000000000), .fz (.int (rows : Nat)), .fz (tr n W R), .un, .un, .un, .un, .fz (.int (m : Nat)), .fz (.int 0), .un] = some (.nx [.fz (patD P), .fz (.int cols), .fz (.int 1000000000), .fz (.int (rows : Nat)), .fz (tr n W R), .un, .un, .un, .un, .fz (.int (m : Nat)), .fz (.int 0), .un]) := by
    have : sliceS none (some 0) (.fz (.lst (P.map colD))) = some (.oL []) := by
      show some (Sl.oL (cutG _ none (some ((0 : Nat) : Int)))) = _
      unfold cutG
      rw [HT.sIx_nat, HT.sIx_none]; simp
    simp -implicitDefEqProofs [patD, this, forGo]
  refine (seq_nx hfor).trans ?_
  refine (seq_nx (ρ' := [.fz (patD P), .fz (.int cols), .fz (.int 1000000000), .fz (.int (rows : Nat)), .fz (tr n W R), .un, .fz (iv n fun v => W v + acr c0 v), .un, .un, .fz (.int (m : Nat)), .fz (.int 0), .un]) ?_).trans ?_
  · rw [ev_asgZ, lcR (n := n) (g := fun v => .int (W v + acr c0 v)) (hrg _ _) (by omega) fun v hv => by simp -implicitDefEqProofs [le2_strip_least, atI_tab hv, patD, List.getElem?_map, hc0, hac]]
    simp -implicitDefEqProofs
  have hmin : gMin [.fz (iv n fun v => W v + acr c0 v)] = some (.fz (.int low)) := gMin_tab h0
  refine (seq_nx (ρ' := [.fz (patD P), .fz (.int cols), .fz (.int 1000000000), .fz (.int (rows : Nat)), .fz (tr n W R), .un, .fz (iv n fun v => W v + acr c0 v), .fz (.int low), .un, .fz (.int (m : Nat)), .fz (.int 0), .un]) (by simp -implicitDefEqProofs [hmin])).trans ?_
  have hrg2 : (fConsB (fOp oShl (fC (.int 1)) (fVarB 3)) (fNil)) [.fz (patD P), .fz (.int cols), .fz (.int 1000000000), .fz (.int (rows : Nat)), .fz (tr n W R), .un, .fz (iv n fun v => W v + acr c0 v), .fz (.int low), .un, .fz (.int (m : Nat)), .fz (.int 0), .un] = some (.val [.fz (.int (n : Nat))]) := by
    simp -implicitDefEqProofs [hs0, hp]
  refine (seq_nx (ρ' := [.fz (patD P), .fz (.int cols), .fz (.int 1000000000), .fz (.int (rows : Nat)), .fz (tr n W R), .un, .fz (iv n fun v => W v + acr c0 v), .fz (.int low), .fz (.int (((List.range n).filter fun v => decide (W v + acr c0 v = low)).map R).sum), .fz (.int (m : Nat)), .fz (.int 0), .un]) ?_).trans ?_
  · rw [ev_asgZ, ev_cb, ev_consB, lcLF (xs := List.range n) (enc := fun k => .int (k : Nat)) (g := fun v => .int (R v)) (c := fun v => decide (W v + acr c0 v = low)) (rng_tab hrg2 (by omega)) (by simp; omega) (fun v hv => by simp -implicitDefEqProofs [lt1_strip_least, atI_tab (List.mem_range.mp hv)]) (fun v hv => by simp -implicitDefEqProofs [le3_strip_least, atI_tab (List.mem_range.mp hv)])]
    have : gSum [.oL (List.map (fun v => D.int (R v)) ((List.range n).filter fun v => decide (W v + acr c0 v = low)))] = some (.fz (.int (((List.range n).filter fun v => decide (W v + acr c0 v = low)).map R).sum)) := gSum_of (by show some _ = some _; rw [List.map_map]; rfl)
    simp -implicitDefEqProofs [this]
  have c2 : ∀ i, cMod i 1000000000 := fun i => cMod_of (by decide)
  simp -implicitDefEqProofs [c2]
  rfl
end
/-! ### near a line -/
theorem near {rows : Nat} {P : List Col} (hP : Pat rows P) {a b : Int} {S : Nat → Int} {L : List Nat} (hp : Paper (2 ^ rows) (stepsC (2 ^ rows) P) a b S L) {lo hi : Int} (hlo : ∀ u, u < 2 ^ rows → lo ≤ S u) (hhi : ∀ u, u < 2 ^ rows → S u ≤ hi) (m : Nat) :
    0 ≤ lowS (2 ^ rows) P m ∧ lowS (2 ^ rows) P m ≤ lowS (2 ^ rows) P (m + 1) ∧ -(hi - lo) ≤ b * lowS (2 ^ rows) P m - a * m ∧ b * lowS (2 ^ rows) P m - a * m ≤ hi - lo + b * ((P.getD 0 ([], [])).1.map absI).sum := by
  have hn : 0 < 2 ^ rows := Nat.pow_pos (by omega)
  have hb := hp.b0
  have hl := hp.loop
  have hpot := hp.pot
  generalize 2 ^ rows = n at *
  have hC : ∀ u v, u < n → v < n → 0 ≤ stepsC n P u v := fun u v _ _ => steps_0 hn P u v
  generalize hc0 : P.getD 0 ([], []) = c0 at *
  have hlow : ∀ m, lowS n P m = mn n fun v => Wk n (stepsC n P) m v + acr c0 v := fun m => by unfold lowS; rw [hc0]
  have hW0 : ∀ m v, v < n → 0 ≤ Wk n (stepsC n P) m v := by
    intro m
    induction m with
    | zero => intro v _; exact Int.le_refl _
    | succ m ih => intro v hv; exact Int.le_trans (ih v hv) (W_mono hn hC m v hv)
  have hred := fun v => Wk_red (C := stepsC n P) (a := a) hn (Int.le_of_lt hb) m v
  obtain ⟨v0, hv0, e0⟩ := mn_at (fun v => Wk n (stepsC n P) m v + acr c0 v) hn
  refine ⟨?_, ?_, ?_, ?_⟩
  · have h1 := hW0 m v0 hv0
    have h2 := acr_0 c0 v0
    rw [hlow, e0]; omega
  · obtain ⟨v1, hv1, e1⟩ := mn_at (fun v => Wk n (stepsC n P) (m + 1) v + acr c0 v) hn
    have h1 := W_mono hn hC m v1 hv1
    have h2 := mn_le (f := fun v => Wk n (stepsC n P) m v + acr c0 v) hv1
    rw [hlow, hlow, e1]; omega
  · have h1 := W_low hn (R := fun u v => b * stepsC n P u v - a) (S := S) (M := hi) (fun u v hu hv => by have := hpot u v hu hv; omega) hhi m v0 hv0
    rw [hred v0] at h1
    have h2 := hlo v0 hv0
    have h3 : 0 ≤ b * acr c0 v0 := Int.mul_nonneg (by omega) (acr_0 c0 v0)
    rw [hlow, e0, Int.mul_add, Int.mul_comm a]; omega
  · obtain ⟨w0, hw0, hh⟩ := W_high hn (R := fun u v => b * stepsC n P u v - a) (S := S) hl (fun u v h => by have := of_decide_eq_true h; omega)
    obtain ⟨k, v, hk, h1⟩ := hh m
    have hv := hl.2.2.1 v (List.mem_of_getElem? hk)
    rw [hred v] at h1
    have h2 := mn_le (f := fun v => Wk n (stepsC n P) m v + acr c0 v) hv
    have h3 : b * mn n (fun v => Wk n (stepsC n P) m v + acr c0 v) ≤ b * (Wk n (stepsC n P) m v + acr c0 v) := Int.mul_le_mul_of_nonneg_left h2 (by omega)
    have h4 : b * acr c0 v ≤ b * (c0.1.map absI).sum := Int.mul_le_mul_of_nonneg_left (acr_le c0 v) (by omega)
    have h5 := hhi v hv
    have h6 := hlo w0 hw0
    rw [Int.mul_add] at h3
    rw [hlow, Int.mul_comm a]; omega
end FN

set_option Elab.async false
set_option linter.all false
set_option maxRecDepth 100000
set_option maxHeartbeats 2000000
/-! The law of k52. -/
namespace FN
open PySem PySem.Spec PyProof.Rows L2
theorem eq_nil {ns : List Int} (h : 0 < ns.length) : oEqA (.fz (.lst (ns.map .int))) (.oL []) = some (.fz (.bl false)) := by
  cases ns with
  | nil => simp at h
  | cons n ns =>
    have h1 : SeqAt.shaped (.list ((n :: ns).map PyData.int)) = true := by
      simp [SeqAt.shaped, PyData.canLay0, PyData.canLayAll0, PyData.depth, PyData.depthAll, lay_ints, dep_ints]
    have h2 : SeqAt.shaped (.list []) = true := by simp [SeqAt.shaped, PyData.canLay0, PyData.canLayAll0, PyData.depth, PyData.depthAll]
    have h3 : PyData.eqv (.list ((n :: ns).map PyData.int)) (.list []) = false := by simp [PyData.eqv, PyData.eqvAll]
    have h4 : toPy (.lst ((n :: ns).map .int)) = some (.list ((n :: ns).map PyData.int)) := by
      show (toPys _).map _ = _
      rw [toPys_ints]; rfl
    have h5 : pyS (.oL []) = some (.list []) := rfl
    have h6 : oEqS (.fz (.lst ((n :: ns).map .int))) (.oL []) = none := rfl
    unfold oEqA altG
    rw [h6]
    show oEqD _ _ = _
    unfold oEqD eqPy
    rw [h5]
    simp only [pyS, h4, h1, h2, h3, and_self, if_true]; rfl
theorem e__law_pair (A : Ad) (x y : Int) : g__law_pair A [.tup [.int x, .int y]] = some (.val (.fz (.bl true))) := by
  refine gDef_rt rfl ?_
  show fSeq _ _ [.fz (.tup [.int x, .int y])] = _
  simp -implicitDefEqProofs [isi_tup, e__law_whole]
theorem shapes52 : ∀ k : Nat, k < 6 → ∃ rows q z : Nat, 1 ≤ rows ∧ rows ≤ 3 ∧ 1 ≤ q ∧ q ≤ 6 ∧ q * (2 * rows - 1) < 19 ∧ 1 ≤ z ∧ z ≤ 100000000000000000 ∧
    ([D.int 1, .int 2, .int 1, .int 2, .int 1, .int 3] : List D)[k]? = some (.int (rows : Nat)) ∧ ([D.int 6, .int 6, .int 2] : List D)[rows - 1]? = some (.int (q : Nat)) ∧ ([D.int 100000000000000000, .int 10000, .int 12] : List D)[rows - 1]? = some (.int (z : Nat)) := by
  intro k hk
  have : k = 0 ∨ k = 1 ∨ k = 2 ∨ k = 3 ∨ k = 4 ∨ k = 5 := by omega
  rcases this with rfl | rfl | rfl | rfl | rfl | rfl
  · exact ⟨1, 6, 100000000000000000, by decide, by decide, by decide, by decide, by decide, by decide, by decide, rfl, rfl, rfl⟩
  · exact ⟨2, 6, 10000, by decide, by decide, by decide, by decide, by decide, by decide, by decide, rfl, rfl, rfl⟩
  · exact ⟨1, 6, 100000000000000000, by decide, by decide, by decide, by decide, by decide, by decide, by decide, rfl, rfl, rfl⟩
  · exact ⟨2, 6, 10000, by decide, by decide, by decide, by decide, by decide, by decide, by decide, rfl, rfl, rfl⟩
  · exact ⟨1, 6, 100000000000000000, by decide, by decide, by decide, by decide, by decide, by decide, by decide, rfl, rfl, rfl⟩
  · exact ⟨3, 2, 12, by decide, by decide, by decide, by decide, by decide, by decide, by decide, rfl, rfl, rfl⟩
theorem law_holds (A : Ad) (hA : A.c_Pull ≠ A.c_Push) (ns : List Int) (hl : ns.length ≤ 63) : g_law A [.scr (ns.map D.int)] = some (.val (.fz (.bl true))) := by
  refine gDef_rt rfl ?_
  obtain ⟨c, hc⟩ := e__law_cell A ns
  have hsum : gSum [.fz (.scr (ns.map D.int))] = some (.fz (.int ns.sum)) := gSum_of rfl
  have hk : c % 6 = ((c % 6).toNat : Int) := by omega
  have hk6 : (c % 6).toNat < 6 := by omega
  obtain ⟨rows, q, z, r1, r3, q1, q6, hq, z1, z2, l1, l2, l3⟩ := shapes52 (c % 6).toNat hk6
  generalize (c % 6).toNat = k at *
  have l2' : atI [D.int 6, .int 6, .int 2] ((rows : Int) - 1) = some (.int (q : Nat)) := by rw [atI_of (rows - 1) (by omega), l2]
  have l3' : atI [D.int 100000000000000000, .int 10000, .int 12] ((rows : Int) - 1) = some (.int (z : Nat)) := by rw [atI_of (rows - 1) (by omega), l3]
  have hb0 : 0 ≤ c / 6 % (q : Int) := Int.emod_nonneg _ (by omega)
  have hb1 : c / 6 % (q : Int) < q := Int.emod_lt_of_pos _ (by omega)
  have hper : 1 + c / 6 % (q : Int) = ((1 + (c / 6 % (q : Int)).toNat : Nat) : Int) := by omega
  have pq : 1 + (c / 6 % (q : Int)).toNat ≤ q := by omega
  generalize hpp : 1 + (c / 6 % (q : Int)).toNat = per at *
  have hcnt : per * (2 * rows - 1) < 19 := Nat.lt_of_le_of_lt (Nat.mul_le_mul_right _ pq) hq
  have hm : c / 36 % 3 = ((c / 36 % 3).toNat : Int) := by omega
  obtain ⟨P, hP, hPl, hpat⟩ := e__law_pattern A ns hl rows per (c / 36 % 3).toNat r1 r3 (by omega) (by omega) hcnt
  generalize (c / 36 % 3).toNat = mode at *
  have hr0 : 0 ≤ ns.sum % (z : Int) := Int.emod_nonneg _ (by omega)
  have hr1 : ns.sum % (z : Int) < z := Int.emod_lt_of_pos _ (by omega)
  have hrep : ns.sum % (z : Int) = ((ns.sum % (z : Int)).toNat : Int) := by omega
  have hrz : (ns.sum % (z : Int)).toNat < 100000000000000000 := by omega
  generalize (ns.sum % (z : Int)).toNat = rep at *
  generalize hs : D.scr (ns.map D.int) = sc at *
  have h8 : 2 ^ rows ≤ 8 := Nat.pow_le_pow_right (n := 2) (by omega) r3
  have h0 : 0 < 2 ^ rows := Nat.pow_pos (by omega)
  have hcp := e__law_copy A P hP.p6
  obtain ⟨a, b, S, L, hpap, hlr⟩ := e_long_run A hA hP
  have hwa := e__law_whole A a
  have hwb := e__law_whole A b
  have hsl := e_strip_least A hA hP
  obtain ⟨hi, hmax, hmem, hle⟩ : ∃ hi, maxI ((List.range (2 ^ rows)).map S) = some hi ∧ hi ∈ (List.range (2 ^ rows)).map S ∧ ∀ y ∈ (List.range (2 ^ rows)).map S, y ≤ hi := by
    cases q : maxI ((List.range (2 ^ rows)).map S) with
    | none =>
      exfalso
      cases q2 : (List.range (2 ^ rows)).map S with
      | nil => have := congrArg List.length q2; rw [List.length_map, List.length_range] at this; simp only [List.length_nil] at this; omega
      | cons x r => rw [q2] at q; cases q
    | some hi => obtain ⟨_, h1, h2⟩ := maxI_ok q; exact ⟨hi, rfl, h1, h2⟩
  have hhi : ∀ u, u < 2 ^ rows → S u ≤ hi := fun u hu => hle _ (List.mem_map.mpr ⟨u, List.mem_range.mpr hu, rfl⟩)
  have gmax : gMax [.fz (iv (2 ^ rows) S)] = some (.fz (.int hi)) := gMax_of (ns := (List.range (2 ^ rows)).map S) (by show some _ = some _; rw [List.map_map]; rfl) hmax
  have gmin : gMin [.fz (iv (2 ^ rows) S)] = some (.fz (.int (mn (2 ^ rows) S))) := gMin_of (ns := (List.range (2 ^ rows)).map S) (by show some _ = some _; rw [List.map_map]; rfl) (minI_mn h0 S)
  have hnear := near hP hpap (lo := mn (2 ^ rows) S) (hi := hi) (fun u hu => mn_le hu) hhi
  have hnil : oEqA (.fz (iv (2 ^ rows) S)) (.oL []) = some (.fz (.bl false)) := by
    have := eq_nil (ns := (List.range (2 ^ rows)).map S) (by simpa using h0)
    rwa [List.map_map] at this
  have hb0 := hpap.b0
  have hbn := hpap.bn
  generalize hn : 2 ^ rows = n at *
  obtain ⟨c0, hc0⟩ : ∃ c0, P[0]? = some c0 := ⟨P[0]'(by have := hP.p1; omega), by simp⟩
  have hg0 : P.getD 0 ([], []) = c0 := by rw [List.getD_eq_getElem?_getD, hc0]; rfl
  rw [hg0] at hnear
  have hcl : c0.1.length ≤ 3 := by have := hP.across c0 (List.mem_of_getElem? hc0); omega
  generalize mn n S = lo at *
  let F : D := .tup [.int a, .int b, il L, iv n S]
  let G : Env := [.fz sc, .fz (.int c), .fz (.int (rows : Nat)), .fz (.int (per : Nat)), .fz (patD P), .fz (.int (rep : Nat)), .fz F]
  have c6 : cMod c 6 := cMod_of (by decide)
  have d6 : cDiv c 6 := cDiv_of (by decide) (by decide)
  have d36 : cDiv c 36 := cDiv_of (by decide) (by decide)
  have cq : cMod (c / 6) (q : Int) := cMod_of (by omega)
  have c3 : cMod (c / 36) 3 := cMod_of (by decide)
  have cz : cMod ns.sum (z : Int) := cMod_of (by omega)
  have p17 : cPow (10 : Int) 17 := cPow_of (by decide) (by decide) (by decide)
  have p4 : cPow (10 : Int) 4 := cPow_of (by decide) (by decide) (by decide)
  have p9 : cPow (10 : Int) 9 := cPow_of (by decide) (by decide) (by decide)
  have mb : ∀ i, cMul b i := fun i => cMul_l (by omega)
  show fSeq _ _ [.fz sc, .un, .un, .un, .un, .un, .un, .un, .un, .un, .un, .un, .un, .un, .un, .un] = _
  refine (seq_nx (ρ' := [.fz sc, .fz (.int c), .un, .un, .un, .un, .un, .un, .un, .un, .un, .un, .un, .un, .un, .un]) (by simp -implicitDefEqProofs [hc])).trans ?_
  refine (seq_nx (ρ' := [.fz sc, .fz (.int c), .fz (.int (rows : Nat)), .un, .un, .un, .un, .un, .un, .un, .un, .un, .un, .un, .un, .un]) (by simp -implicitDefEqProofs [c6, hk, atI_cast, l1])).trans ?_
  refine (seq_nx (ρ' := [.fz sc, .fz (.int c), .fz (.int (rows : Nat)), .fz (.int (per : Nat)), .un, .un, .un, .un, .un, .un, .un, .un, .un, .un, .un, .un]) (by simp -implicitDefEqProofs [d6, cq, l2', hper])).trans ?_
  refine (seq_nx (ρ' := [.fz sc, .fz (.int c), .fz (.int (rows : Nat)), .fz (.int (per : Nat)), .fz (patD P), .un, .un, .un, .un, .un, .un, .un, .un, .un, .un, .un]) (by simp -implicitDefEqProofs [d36, c3, hm, hpat]; rfl)).trans ?_
  refine (seq_nx (ρ' := [.fz sc, .fz (.int c), .fz (.int (rows : Nat)), .fz (.int (per : Nat)), .fz (patD P), .fz (.int (rep : Nat)), .un, .un, .un, .un, .un, .un, .un, .un, .un, .un]) (by simp -implicitDefEqProofs [hsum, p17, p4, l3', cz, hrep])).trans ?_
  refine (seq_nx (ρ' := G ++ [.un, .un, .un, .un, .un, .un, .un, .un, .un]) (by
    have : g_long_run A [.lst (P.map colD)] = some (.val (.fz F)) := hlr
    simp -implicitDefEqProofs [hcp, this, G])).trans ?_
  refine (seq_nx (ρ' := G ++ [.un, .un, .un, .un, .un, .un, .un, .un, .un]) (by simp -implicitDefEqProofs [G, F, isi_tup, hwa, hwb])).trans ?_
  refine (seq_nx (ρ' := G ++ [.un, .un, .un, .un, .un, .un, .un, .un, .un]) ?_).trans ?_
  · have hlc : fLc (fItB (fIx (fVarB 6) (fC (.int 3)))) [15] (gdN 15) (fYes) (le1_law A) (G ++ [.un, .un, .un, .un, .un, .un, .un, .un, .un]) = some (.val (.oL (tab n fun _ => .bl true))) := lcT (e := fun u => .int (S u)) (by simp -implicitDefEqProofs [G, F]) (by omega) fun u hu => by simp -implicitDefEqProofs [G, le1_law, e__law_whole]
    have hall : gAll [.oL (tab n fun _ => D.bl true)] = some (.fz (.bl true)) := by
      rw [gAll_of (ns := (List.range n).map fun _ => true) (by rw [List.map_map]; rfl)]; simp
    have h3 : fIx (fVarB 6) (fC (.int 3)) (G ++ [.un, .un, .un, .un, .un, .un, .un, .un, .un]) = some (.val (.fz (iv n S))) := by simp -implicitDefEqProofs [G, F]
    generalize G ++ [.un, .un, .un, .un, .un, .un, .un, .un, .un] = ρ at *
    simp -implicitDefEqProofs only [ev_ifS, ev_or, ev_not, ev_T, ev_cb, ev_consB, ev_c, ev_nil, ev_op, ev_lst, h3, hlc, hall, hnil, isi_list, bnd_val, pur_some, ev_asB, Bool.not_true, Bool.false_eq_true, if_false, bndS_val, ev_next, List.length_nil, Nat.zero_le, if_true]
  refine (seq_nx (ρ' := G ++ [.fz (.int (hi - lo)), .un, .un, .un, .un, .un, .un, .un, .un]) (by simp -implicitDefEqProofs [G, F, gmax, gmin])).trans ?_
  refine (seq_nx (ρ' := G ++ [.fz (.int (hi - lo)), .fz (.int (b * (c0.1.map absI).sum)), .un, .un, .un, .un, .un, .un, .un]) ?_).trans ?_
  · have hlc : fLc (fItB (fIx (fIx (fVarB 4) (fC (.int 0))) (fC (.int 0)))) [14] (gdN 14) (fYes) (le2_law A) (G ++ [.fz (.int (hi - lo)), .un, .un, .un, .un, .un, .un, .un, .un]) = some (.val (.oL (c0.1.map fun s => D.int (absI s)))) := lcL (enc := .int) (by simp -implicitDefEqProofs [G, patD, List.getElem?_map, hc0, colD]) (by omega) fun s hs => by simp -implicitDefEqProofs [G, le2_law, absI]
    have hsm : gSum [.oL (c0.1.map fun s => D.int (absI s))] = some (.fz (.int (c0.1.map absI).sum)) := gSum_of (by show some _ = some _; rw [List.map_map]; rfl)
    rw [ev_asgZ, ev_op, ev_cb, ev_consB, hlc]
    simp -implicitDefEqProofs [G, F, hsm, mb]
  refine (seq_nx (ρ' := G ++ [.fz (.int (hi - lo)), .fz (.int (b * (c0.1.map absI).sum)), .fz (.int 0), .un, .un, .un, .un, .un, .un]) (by simp -implicitDefEqProofs [G])).trans ?_
  generalize hov : b * (c0.1.map absI).sum = over at *
  obtain ⟨⟨last, x, y, u, v⟩, h1, _⟩ := forP (n := 3) (it := fRng rng1 (fConsB (fC (.int 3)) (fNil))) (b := lb1_law A) (i := 10)
    (fun k (p : Int × Sl × Sl × Sl × Sl) => G ++ [.fz (.int (hi - lo)), .fz (.int over), .fz (.int p.1), p.2.1, p.2.2.1, p.2.2.2.1, p.2.2.2.2, .un, .un])
    (fun k p => p.1 ≤ lowS n P (rep + k)) (fun k => .int (k : Nat)) (0, .un, .un, .un, .un) (rng_tab (by simp -implicitDefEqProofs) (by omega)) (hnear rep).1 (by
      rintro k ⟨last, x, y, u, v⟩ hk hI
      dsimp only at hI
      obtain ⟨n1, n2, n3, n4⟩ := hnear (rep + k)
      obtain ⟨cc, hcc⟩ := hsl (rep + k) (by
        have : (rep + k) * P.length ≤ (rep + k) * 6 := Nat.mul_le_mul_left _ hP.p6
        omega)
      rw [hPl] at hcc
      have hcol : ((rep : Int) + (k : Int)) * (per : Int) + 1 = (((rep + k) * per + 1 : Nat) : Int) := by
        rw [Int.natCast_add, Int.natCast_mul, Int.natCast_add]; rfl
      have hrk : (rep : Int) + (k : Int) = ((rep + k : Nat) : Int) := by omega
      have mc : cMul ((rep : Int) + (k : Int)) (per : Int) := cMul_r (by omega)
      have ma : cMul a ((rep : Int) + (k : Int)) := cMul_r (by omega)
      have hpr := e__law_pair A (lowS n P (rep + k)) cc
      have n2' : lowS n P (rep + k) ≤ lowS n P (rep + (k + 1)) := n2
      generalize hcols : (((rep + k) * per + 1 : Nat) : Int) = cols at *
      generalize lowS n P (rep + k) = low at *
      refine ⟨(low, .fz (.int (k : Nat)), .fz (.int cols), .fz (.tup [.int low, .int cc]), .fz (.int (b * low - a * ((rep : Int) + (k : Int))))), ?_, n2'⟩
      show lb1_law A (G ++ [.fz (.int (hi - lo)), .fz (.int over), .fz (.int last), .fz (.int (k : Nat)), y, u, v, .un, .un]) = _
      unfold lb1_law
      refine (seq_nx (ρ' := G ++ [.fz (.int (hi - lo)), .fz (.int over), .fz (.int last), .fz (.int (k : Nat)), .fz (.int cols), u, v, .un, .un]) (by simp -implicitDefEqProofs [G, mc, hcol])).trans ?_
      refine (seq_nx (ρ' := G ++ [.fz (.int (hi - lo)), .fz (.int over), .fz (.int last), .fz (.int (k : Nat)), .fz (.int cols), .fz (.tup [.int low, .int cc]), v, .un, .un]) (by
        have : g_strip_least A [.lst (P.map colD), .int cols, .int 1000000000] = some (.val (.fz (.tup [.int low, .int cc]))) := hcc
        simp -implicitDefEqProofs [G, hcp, p9, this])).trans ?_
      refine (seq_nx (ρ' := G ++ [.fz (.int (hi - lo)), .fz (.int over), .fz (.int last), .fz (.int (k : Nat)), .fz (.int cols), .fz (.tup [.int low, .int cc]), v, .un, .un]) (by simp -implicitDefEqProofs [G, hpr, show ¬ low < last by omega])).trans ?_
      refine (seq_nx (ρ' := G ++ [.fz (.int (hi - lo)), .fz (.int over), .fz (.int last), .fz (.int (k : Nat)), .fz (.int cols), .fz (.tup [.int low, .int cc]), .fz (.int (b * low - a * ((rep : Int) + (k : Int)))), .un, .un]) (by simp -implicitDefEqProofs [G, F, mb, ma])).trans ?_
      rw [← hrk] at n3 n4
      generalize b * low - a * ((rep : Int) + (k : Int)) = gone at *
      refine (seq_nx (ρ' := G ++ [.fz (.int (hi - lo)), .fz (.int over), .fz (.int last), .fz (.int (k : Nat)), .fz (.int cols), .fz (.tup [.int low, .int cc]), .fz (.int gone), .un, .un]) (by simp -implicitDefEqProofs [G, show ¬ gone < -(hi - lo) by omega, show ¬ hi - lo + over < gone by omega])).trans ?_
      simp -implicitDefEqProofs [G])
  refine (seq_nx h1).trans ?_
  simp -implicitDefEqProofs
end FN

set_option Elab.async false
set_option linter.all false
set_option maxRecDepth 100000
set_option maxHeartbeats 4000000
/-! The end (written by gen.py): from the law as a plain function to the row. -/
namespace FN
open PySem PySem.Spec PyProof.Rows L2
def spLaw (K : PySem.W.Frag) : Sp := fun vs H Q _ => ∃ (a : Addr) (ns : List Int), vs = [.ref a] ∧ SqL K H a (ns.map V.int) ∧ ns.length ≤ 63 ∧ ∀ H', Q (.bl true) H'
/-- the law as a plain function tells True of every script -/
def LawTrue : Prop := ∀ A : Ad, A.c_Pull ≠ A.c_Push → ∀ ns : List Int, ns.length ≤ 63 → g_law A [.scr (ns.map D.int)] = some (.val (.fz (.bl true)))
theorem all_mk {P : Program} {w : World} {K : PySem.W.Frag} {h : Heap} {mg : Str → Option Value} {fa f0 f1 f2 f3 f4 f5 f6 f7 f8 f9 f10 f11 f12 f13 f14 f15 f16 f17 f18 f19 f20 f21 f22 f23 f24 f25 f26 f27 f28 f29 f30 f31 cc0 cc1 cc2 cc3 cc4 cc5 : Addr} (LTr : LawTrue) (X : K.In h) (G : h.Ns mainGlobals mg) (hfa : mg "law" = some (.ref fa))
    {od0 an0 od1 an1 od2 an2 od3 an3 od4 an4 od5 an5 od6 an6 od7 an7 od8 an8 od9 an9 od10 an10 od11 an11 od12 an12 od13 an13 od14 an14 od15 an15 od16 an16 od17 an17 od18 an18 od19 an19 od20 an20 od21 an21 od22 an22 od23 an23 od24 an24 od25 an25 od26 an26 od27 an27 od28 an28 od29 an29 od30 an30 od31 an31 : Option Addr} {sl0 sl1 sl2 sl3 sl4 sl5 sl6 sl7 sl8 sl9 sl10 sl11 sl12 sl13 sl14 sl15 sl16 sl17 sl18 sl19 sl20 sl21 sl22 sl23 sl24 sl25 sl26 sl27 sl28 sl29 sl30 sl31 : Array (Option Value)} {oc0 kV0 dc0 pm0 cd0 ct0 oc1 kV1 dc1 pm1 cd1 ct1 oc2 kV2 dc2 pm2 cd2 ct2 oc3 kV3 dc3 pm3 cd3 ct3 oc4 kV4 dc4 pm4 cd4 ct4 oc5 kV5 dc5 pm5 cd5 ct5 oc6 kV6 dc6 pm6 cd6 ct6 oc7 kV7 dc7 pm7 cd7 ct7 oc8 kV8 dc8 pm8 cd8 ct8 oc9 kV9 dc9 pm9 cd9 ct9 oc10 kV10 dc10 pm10 cd10 ct10 oc11 kV11 dc11 pm11 cd11 ct11 oc12 kV12 dc12 pm12 cd12 ct12 oc13 kV13 dc13 pm13 cd13 ct13 oc14 kV14 dc14 pm14 cd14 ct14 oc15 kV15 dc15 pm15 cd15 ct15 oc16 kV16 dc16 pm16 cd16 ct16 oc17 kV17 dc17 pm17 cd17 ct17 oc18 kV18 dc18 pm18 cd18 ct18 oc19 kV19 dc19 pm19 cd19 ct19 oc20 kV20 dc20 pm20 cd20 ct20 oc21 kV21 dc21 pm21 cd21 ct21 oc22 kV22 dc22 pm22 cd22 ct22 oc23 kV23 dc23 pm23 cd23 ct23 oc24 kV24 dc24 pm24 cd24 ct24 oc25 kV25 dc25 pm25 cd25 ct25 oc26 kV26 dc26 pm26 cd26 ct26 oc27 kV27 dc27 pm27 cd27 ct27 oc28 kV28 dc28 pm28 cd28 ct28 oc29 kV29 dc29 pm29 cd29 ct29 oc30 kV30 dc30 pm30 cd30 ct30 oc31 kV31 dc31 pm31 cd31 ct31 : Value}
    (m_cc0 : PySem.W.nsIn K mainGlobals "FloorError" = some (some (.ref cc0)))
    (m_cc1 : PySem.W.nsIn K mainGlobals "BadTie" = some (some (.ref cc1)))
    (m_cc2 : PySem.W.nsIn K mainGlobals "BadStrip" = some (some (.ref cc2)))
    (m_cc3 : PySem.W.nsIn K mainGlobals "Tie" = some (some (.ref cc3)))
    (m_cc4 : PySem.W.nsIn K mainGlobals "Pull" = some (some (.ref cc4)))
    (m_cc5 : PySem.W.nsIn K mainGlobals "Push" = some (some (.ref cc5)))
    (a0 : PySem.W.nsIn K mainGlobals "way_to" = some (some (.ref f0)))
    (l0 : K.lookup f0 = some ⟨oc0, od0, .func (PySem.W.fnOf "way_to" "way_to" (defArgs s_way_to) (defBody s_way_to) (defScope s_way_to) .none kV0 dc0 pm0 an0 cd0 ct0), sl0⟩)
    (v0 : PySem.W.codeIn K cd0 "way_to" = true)
    (k0 : PySem.W.keepIn K (.ref f0) = true)
    (a1 : PySem.W.nsIn K mainGlobals "row_joined" = some (some (.ref f1)))
    (l1 : K.lookup f1 = some ⟨oc1, od1, .func (PySem.W.fnOf "row_joined" "row_joined" (defArgs s_row_joined) (defBody s_row_joined) (defScope s_row_joined) .none kV1 dc1 pm1 an1 cd1 ct1), sl1⟩)
    (v1 : PySem.W.codeIn K cd1 "row_joined" = true)
    (k1 : PySem.W.keepIn K (.ref f1) = true)
    (a2 : PySem.W.nsIn K mainGlobals "tables_joined" = some (some (.ref f2)))
    (l2 : K.lookup f2 = some ⟨oc2, od2, .func (PySem.W.fnOf "tables_joined" "tables_joined" (defArgs s_tables_joined) (defBody s_tables_joined) (defScope s_tables_joined) .none kV2 dc2 pm2 an2 cd2 ct2), sl2⟩)
    (v2 : PySem.W.codeIn K cd2 "tables_joined" = true)
    (k2 : PySem.W.keepIn K (.ref f2) = true)
    (a3 : PySem.W.nsIn K mainGlobals "by_modulus" = some (some (.ref f3)))
    (l3 : K.lookup f3 = some ⟨oc3, od3, .func (PySem.W.fnOf "by_modulus" "by_modulus" (defArgs s_by_modulus) (defBody s_by_modulus) (defScope s_by_modulus) .none kV3 dc3 pm3 an3 cd3 ct3), sl3⟩)
    (v3 : PySem.W.codeIn K cd3 "by_modulus" = true)
    (k3 : PySem.W.keepIn K (.ref f3) = true)
    (a4 : PySem.W.nsIn K mainGlobals "table_power" = some (some (.ref f4)))
    (l4 : K.lookup f4 = some ⟨oc4, od4, .func (PySem.W.fnOf "table_power" "table_power" (defArgs s_table_power) (defBody s_table_power) (defScope s_table_power) .none kV4 dc4 pm4 an4 cd4 ct4), sl4⟩)
    (v4 : PySem.W.codeIn K cd4 "table_power" = true)
    (k4 : PySem.W.keepIn K (.ref f4) = true)
    (a5 : PySem.W.findIn K (.ref cc3) "__init__" = some (some (.ref f5)))
    (l5 : K.lookup f5 = some ⟨oc5, od5, .func (PySem.W.fnOf "__init__" "Tie.__init__" (defArgs s_Tie_init) (defBody s_Tie_init) (defScope s_Tie_init) .none kV5 dc5 pm5 an5 cd5 ct5), sl5⟩)
    (v5 : PySem.W.codeIn K cd5 "Tie.__init__" = true)
    (k5 : PySem.W.keepIn K (.ref f5) = true)
    (a6 : PySem.W.findIn K (.ref cc3) "unpleased" = some (some (.ref f6)))
    (l6 : K.lookup f6 = some ⟨oc6, od6, .func (PySem.W.fnOf "unpleased" "Tie.unpleased" (defArgs s_Tie_unpleased) (defBody s_Tie_unpleased) (defScope s_Tie_unpleased) .none kV6 dc6 pm6 an6 cd6 ct6), sl6⟩)
    (v6 : PySem.W.codeIn K cd6 "Tie.unpleased" = true)
    (k6 : PySem.W.keepIn K (.ref f6) = true)
    (a7 : PySem.W.findIn K (.ref cc3) "price" = some (some (.ref f7)))
    (l7 : K.lookup f7 = some ⟨oc7, od7, .func (PySem.W.fnOf "price" "Tie.price" (defArgs s_Tie_price) (defBody s_Tie_price) (defScope s_Tie_price) .none kV7 dc7 pm7 an7 cd7 ct7), sl7⟩)
    (v7 : PySem.W.codeIn K cd7 "Tie.price" = true)
    (k7 : PySem.W.keepIn K (.ref f7) = true)
    (a8 : PySem.W.findIn K (.ref cc4) "wish" = some (some (.ref f8)))
    (l8 : K.lookup f8 = some ⟨oc8, od8, .func (PySem.W.fnOf "wish" "Pull.wish" (defArgs s_Pull_wish) (defBody s_Pull_wish) (defScope s_Pull_wish) .none kV8 dc8 pm8 an8 cd8 ct8), sl8⟩)
    (v8 : PySem.W.codeIn K cd8 "Pull.wish" = true)
    (k8 : PySem.W.keepIn K (.ref f8) = true)
    (a9 : PySem.W.findIn K (.ref cc5) "wish" = some (some (.ref f9)))
    (l9 : K.lookup f9 = some ⟨oc9, od9, .func (PySem.W.fnOf "wish" "Push.wish" (defArgs s_Push_wish) (defBody s_Push_wish) (defScope s_Push_wish) .none kV9 dc9 pm9 an9 cd9 ct9), sl9⟩)
    (v9 : PySem.W.codeIn K cd9 "Push.wish" = true)
    (k9 : PySem.W.keepIn K (.ref f9) = true)
    (a10 : PySem.W.nsIn K mainGlobals "tie_of" = some (some (.ref f10)))
    (l10 : K.lookup f10 = some ⟨oc10, od10, .func (PySem.W.fnOf "tie_of" "tie_of" (defArgs s_tie_of) (defBody s_tie_of) (defScope s_tie_of) .none kV10 dc10 pm10 an10 cd10 ct10), sl10⟩)
    (v10 : PySem.W.codeIn K cd10 "tie_of" = true)
    (k10 : PySem.W.keepIn K (.ref f10) = true)
    (a11 : PySem.W.nsIn K mainGlobals "rows_of" = some (some (.ref f11)))
    (l11 : K.lookup f11 = some ⟨oc11, od11, .func (PySem.W.fnOf "rows_of" "rows_of" (defArgs s_rows_of) (defBody s_rows_of) (defScope s_rows_of) .none kV11 dc11 pm11 an11 cd11 ct11), sl11⟩)
    (v11 : PySem.W.codeIn K cd11 "rows_of" = true)
    (k11 : PySem.W.keepIn K (.ref f11) = true)
    (a12 : PySem.W.nsIn K mainGlobals "across_price" = some (some (.ref f12)))
    (l12 : K.lookup f12 = some ⟨oc12, od12, .func (PySem.W.fnOf "across_price" "across_price" (defArgs s_across_price) (defBody s_across_price) (defScope s_across_price) .none kV12 dc12 pm12 an12 cd12 ct12), sl12⟩)
    (v12 : PySem.W.codeIn K cd12 "across_price" = true)
    (k12 : PySem.W.keepIn K (.ref f12) = true)
    (a13 : PySem.W.nsIn K mainGlobals "along_price" = some (some (.ref f13)))
    (l13 : K.lookup f13 = some ⟨oc13, od13, .func (PySem.W.fnOf "along_price" "along_price" (defArgs s_along_price) (defBody s_along_price) (defScope s_along_price) .none kV13 dc13 pm13 an13 cd13 ct13), sl13⟩)
    (v13 : PySem.W.codeIn K cd13 "along_price" = true)
    (k13 : PySem.W.keepIn K (.ref f13) = true)
    (a14 : PySem.W.nsIn K mainGlobals "column_table" = some (some (.ref f14)))
    (l14 : K.lookup f14 = some ⟨oc14, od14, .func (PySem.W.fnOf "column_table" "column_table" (defArgs s_column_table) (defBody s_column_table) (defScope s_column_table) .none kV14 dc14 pm14 an14 cd14 ct14), sl14⟩)
    (v14 : PySem.W.codeIn K cd14 "column_table" = true)
    (k14 : PySem.W.keepIn K (.ref f14) = true)
    (a15 : PySem.W.nsIn K mainGlobals "step_table" = some (some (.ref f15)))
    (l15 : K.lookup f15 = some ⟨oc15, od15, .func (PySem.W.fnOf "step_table" "step_table" (defArgs s_step_table) (defBody s_step_table) (defScope s_step_table) .none kV15 dc15 pm15 an15 cd15 ct15), sl15⟩)
    (v15 : PySem.W.codeIn K cd15 "step_table" = true)
    (k15 : PySem.W.keepIn K (.ref f15) = true)
    (a16 : PySem.W.nsIn K mainGlobals "strip_least" = some (some (.ref f16)))
    (l16 : K.lookup f16 = some ⟨oc16, od16, .func (PySem.W.fnOf "strip_least" "strip_least" (defArgs s_strip_least) (defBody s_strip_least) (defScope s_strip_least) .none kV16 dc16 pm16 an16 cd16 ct16), sl16⟩)
    (v16 : PySem.W.codeIn K cd16 "strip_least" = true)
    (k16 : PySem.W.keepIn K (.ref f16) = true)
    (a17 : PySem.W.nsIn K mainGlobals "lows_of" = some (some (.ref f17)))
    (l17 : K.lookup f17 = some ⟨oc17, od17, .func (PySem.W.fnOf "lows_of" "lows_of" (defArgs s_lows_of) (defBody s_lows_of) (defScope s_lows_of) .none kV17 dc17 pm17 an17 cd17 ct17), sl17⟩)
    (v17 : PySem.W.codeIn K cd17 "lows_of" = true)
    (k17 : PySem.W.keepIn K (.ref f17) = true)
    (a18 : PySem.W.nsIn K mainGlobals "lowest_into" = some (some (.ref f18)))
    (l18 : K.lookup f18 = some ⟨oc18, od18, .func (PySem.W.fnOf "lowest_into" "lowest_into" (defArgs s_lowest_into) (defBody s_lowest_into) (defScope s_lowest_into) .none kV18 dc18 pm18 an18 cd18 ct18), sl18⟩)
    (v18 : PySem.W.codeIn K cd18 "lowest_into" = true)
    (k18 : PySem.W.keepIn K (.ref f18) = true)
    (a19 : PySem.W.nsIn K mainGlobals "walks" = some (some (.ref f19)))
    (l19 : K.lookup f19 = some ⟨oc19, od19, .func (PySem.W.fnOf "walks" "walks" (defArgs s_walks) (defBody s_walks) (defScope s_walks) .none kV19 dc19 pm19 an19 cd19 ct19), sl19⟩)
    (v19 : PySem.W.codeIn K cd19 "walks" = true)
    (k19 : PySem.W.keepIn K (.ref f19) = true)
    (a20 : PySem.W.nsIn K mainGlobals "steepest" = some (some (.ref f20)))
    (l20 : K.lookup f20 = some ⟨oc20, od20, .func (PySem.W.fnOf "steepest" "steepest" (defArgs s_steepest) (defBody s_steepest) (defScope s_steepest) .none kV20 dc20 pm20 an20 cd20 ct20), sl20⟩)
    (v20 : PySem.W.codeIn K cd20 "steepest" = true)
    (k20 : PySem.W.keepIn K (.ref f20) = true)
    (a21 : PySem.W.nsIn K mainGlobals "lowest_average" = some (some (.ref f21)))
    (l21 : K.lookup f21 = some ⟨oc21, od21, .func (PySem.W.fnOf "lowest_average" "lowest_average" (defArgs s_lowest_average) (defBody s_lowest_average) (defScope s_lowest_average) .none kV21 dc21 pm21 an21 cd21 ct21), sl21⟩)
    (v21 : PySem.W.codeIn K cd21 "lowest_average" = true)
    (k21 : PySem.W.keepIn K (.ref f21) = true)
    (a22 : PySem.W.nsIn K mainGlobals "slopes_of" = some (some (.ref f22)))
    (l22 : K.lookup f22 = some ⟨oc22, od22, .func (PySem.W.fnOf "slopes_of" "slopes_of" (defArgs s_slopes_of) (defBody s_slopes_of) (defScope s_slopes_of) .none kV22 dc22 pm22 an22 cd22 ct22), sl22⟩)
    (v22 : PySem.W.codeIn K cd22 "slopes_of" = true)
    (k22 : PySem.W.keepIn K (.ref f22) = true)
    (a23 : PySem.W.nsIn K mainGlobals "loop_of" = some (some (.ref f23)))
    (l23 : K.lookup f23 = some ⟨oc23, od23, .func (PySem.W.fnOf "loop_of" "loop_of" (defArgs s_loop_of) (defBody s_loop_of) (defScope s_loop_of) .none kV23 dc23 pm23 an23 cd23 ct23), sl23⟩)
    (v23 : PySem.W.codeIn K cd23 "loop_of" = true)
    (k23 : PySem.W.keepIn K (.ref f23) = true)
    (a24 : PySem.W.nsIn K mainGlobals "long_run" = some (some (.ref f24)))
    (l24 : K.lookup f24 = some ⟨oc24, od24, .func (PySem.W.fnOf "long_run" "long_run" (defArgs s_long_run) (defBody s_long_run) (defScope s_long_run) .none kV24 dc24 pm24 an24 cd24 ct24), sl24⟩)
    (v24 : PySem.W.codeIn K cd24 "long_run" = true)
    (k24 : PySem.W.keepIn K (.ref f24) = true)
    (a25 : PySem.W.nsIn K mainGlobals "_law_cell" = some (some (.ref f25)))
    (l25 : K.lookup f25 = some ⟨oc25, od25, .func (PySem.W.fnOf "_law_cell" "_law_cell" (defArgs s__law_cell) (defBody s__law_cell) (defScope s__law_cell) .none kV25 dc25 pm25 an25 cd25 ct25), sl25⟩)
    (v25 : PySem.W.codeIn K cd25 "_law_cell" = true)
    (k25 : PySem.W.keepIn K (.ref f25) = true)
    (a26 : PySem.W.nsIn K mainGlobals "_law_whole" = some (some (.ref f26)))
    (l26 : K.lookup f26 = some ⟨oc26, od26, .func (PySem.W.fnOf "_law_whole" "_law_whole" (defArgs s__law_whole) (defBody s__law_whole) (defScope s__law_whole) .none kV26 dc26 pm26 an26 cd26 ct26), sl26⟩)
    (v26 : PySem.W.codeIn K cd26 "_law_whole" = true)
    (k26 : PySem.W.keepIn K (.ref f26) = true)
    (a27 : PySem.W.nsIn K mainGlobals "_law_pair" = some (some (.ref f27)))
    (l27 : K.lookup f27 = some ⟨oc27, od27, .func (PySem.W.fnOf "_law_pair" "_law_pair" (defArgs s__law_pair) (defBody s__law_pair) (defScope s__law_pair) .none kV27 dc27 pm27 an27 cd27 ct27), sl27⟩)
    (v27 : PySem.W.codeIn K cd27 "_law_pair" = true)
    (k27 : PySem.W.keepIn K (.ref f27) = true)
    (a28 : PySem.W.nsIn K mainGlobals "_law_strength" = some (some (.ref f28)))
    (l28 : K.lookup f28 = some ⟨oc28, od28, .func (PySem.W.fnOf "_law_strength" "_law_strength" (defArgs s__law_strength) (defBody s__law_strength) (defScope s__law_strength) .none kV28 dc28 pm28 an28 cd28 ct28), sl28⟩)
    (v28 : PySem.W.codeIn K cd28 "_law_strength" = true)
    (k28 : PySem.W.keepIn K (.ref f28) = true)
    (a29 : PySem.W.nsIn K mainGlobals "_law_pattern" = some (some (.ref f29)))
    (l29 : K.lookup f29 = some ⟨oc29, od29, .func (PySem.W.fnOf "_law_pattern" "_law_pattern" (defArgs s__law_pattern) (defBody s__law_pattern) (defScope s__law_pattern) .none kV29 dc29 pm29 an29 cd29 ct29), sl29⟩)
    (v29 : PySem.W.codeIn K cd29 "_law_pattern" = true)
    (k29 : PySem.W.keepIn K (.ref f29) = true)
    (a30 : PySem.W.nsIn K mainGlobals "_law_copy" = some (some (.ref f30)))
    (l30 : K.lookup f30 = some ⟨oc30, od30, .func (PySem.W.fnOf "_law_copy" "_law_copy" (defArgs s__law_copy) (defBody s__law_copy) (defScope s__law_copy) .none kV30 dc30 pm30 an30 cd30 ct30), sl30⟩)
    (v30 : PySem.W.codeIn K cd30 "_law_copy" = true)
    (k30 : PySem.W.keepIn K (.ref f30) = true)
    (a31 : PySem.W.nsIn K mainGlobals "law" = some (some (.ref f31)))
    (l31 : K.lookup f31 = some ⟨oc31, od31, .func (PySem.W.fnOf "law" "law" (defArgs s_law) (defBody s_law) (defScope s_law) .none kV31 dc31 pm31 an31 cd31 ct31), sl31⟩)
    (v31 : PySem.W.codeIn K cd31 "law" = true)
    (k31 : PySem.W.keepIn K (.ref f31) = true)
    (z_abs : PySem.W.nsIn K mainGlobals "abs" = some none)
    (z_all : PySem.W.nsIn K mainGlobals "all" = some none)
    (z_any : PySem.W.nsIn K mainGlobals "any" = some none)
    (z_bool : PySem.W.nsIn K mainGlobals "bool" = some none)
    (z_divmod : PySem.W.nsIn K mainGlobals "divmod" = some none)
    (z_int : PySem.W.nsIn K mainGlobals "int" = some none)
    (z_isinstance : PySem.W.nsIn K mainGlobals "isinstance" = some none)
    (z_len : PySem.W.nsIn K mainGlobals "len" = some none)
    (z_list : PySem.W.nsIn K mainGlobals "list" = some none)
    (z_max : PySem.W.nsIn K mainGlobals "max" = some none)
    (z_min : PySem.W.nsIn K mainGlobals "min" = some none)
    (z_range : PySem.W.nsIn K mainGlobals "range" = some none)
    (z_sum : PySem.W.nsIn K mainGlobals "sum" = some none)
    (z_tuple : PySem.W.nsIn K mainGlobals "tuple" = some none)
    (gl0 : ∃ t, PySem.W.nsIn K mainGlobals "MOST_COLUMNS" = some (some (.int 1000000000000000000 t)))
    (gl1 : ∃ t, PySem.W.nsIn K mainGlobals "MOST_MODULUS" = some (some (.int 1000000000 t)))
    (pgcc4 : PySem.W.plainGet K cc4 Str.empty = true)
    (hdcc4 : PySem.W.hasDictIn K cc4 = true)
    (pocc4 : PySem.W.plainOver K cc4 = true)
    (sacc4 : PySem.W.findIn K (.ref cc4) "__setattr__" = some (some (.builtin "object.__setattr__")))
    (micc4 : PySem.W.makesIn K cc4 = true)
    (kccc4 : PySem.W.keepIn K (.ref cc4) = true)
    (iacc4 : PySem.W.findIn K (.ref cc4) "__init__" = some (some (.ref f5)))
    (iicc4 : PySem.W.isFn K (.ref f5) = true)
    (ncc4one : PySem.W.findIn K (.ref cc4) "one" = some none)
    (ncc4strength : PySem.W.findIn K (.ref cc4) "strength" = some none)
    (ncc4two : PySem.W.findIn K (.ref cc4) "two" = some none)
    (macc4price : PySem.W.findIn K (.ref cc4) "price" = some (some (.ref f7)))
    (micc4price : PySem.W.isFn K (.ref f7) = true)
    (macc4unpleased : PySem.W.findIn K (.ref cc4) "unpleased" = some (some (.ref f6)))
    (micc4unpleased : PySem.W.isFn K (.ref f6) = true)
    (macc4wish : PySem.W.findIn K (.ref cc4) "wish" = some (some (.ref f8)))
    (micc4wish : PySem.W.isFn K (.ref f8) = true)
    (pgcc5 : PySem.W.plainGet K cc5 Str.empty = true)
    (hdcc5 : PySem.W.hasDictIn K cc5 = true)
    (pocc5 : PySem.W.plainOver K cc5 = true)
    (sacc5 : PySem.W.findIn K (.ref cc5) "__setattr__" = some (some (.builtin "object.__setattr__")))
    (micc5 : PySem.W.makesIn K cc5 = true)
    (kccc5 : PySem.W.keepIn K (.ref cc5) = true)
    (iacc5 : PySem.W.findIn K (.ref cc5) "__init__" = some (some (.ref f5)))
    (iicc5 : PySem.W.isFn K (.ref f5) = true)
    (ncc5one : PySem.W.findIn K (.ref cc5) "one" = some none)
    (ncc5strength : PySem.W.findIn K (.ref cc5) "strength" = some none)
    (ncc5two : PySem.W.findIn K (.ref cc5) "two" = some none)
    (macc5price : PySem.W.findIn K (.ref cc5) "price" = some (some (.ref f7)))
    (micc5price : PySem.W.isFn K (.ref f7) = true)
    (macc5unpleased : PySem.W.findIn K (.ref cc5) "unpleased" = some (some (.ref f6)))
    (micc5unpleased : PySem.W.isFn K (.ref f6) = true)
    (macc5wish : PySem.W.findIn K (.ref cc5) "wish" = some (some (.ref f9)))
    (micc5wish : PySem.W.isFn K (.ref f9) = true)
    (xcc0 : PySem.W.excIn K cc0 [.type "ValueError", .type "Exception", .type "BaseException", .type "object"] "ValueError.__new__" = true)
    (kecc0 : PySem.W.keepIn K (.ref cc0) = true)
    (bscc0 : PySem.W.subIn K (.ref cc0) (.type "BaseException") = some true)
    (tycc0 : PySem.W.typeIn K (.ref cc0) = some (.type "type"))
    (xcc1 : PySem.W.excIn K cc1 [.type "ValueError", .type "Exception", .type "BaseException", .type "object"] "ValueError.__new__" = true)
    (kecc1 : PySem.W.keepIn K (.ref cc1) = true)
    (bscc1 : PySem.W.subIn K (.ref cc1) (.type "BaseException") = some true)
    (tycc1 : PySem.W.typeIn K (.ref cc1) = some (.type "type"))
    (xcc2 : PySem.W.excIn K cc2 [.type "ValueError", .type "Exception", .type "BaseException", .type "object"] "ValueError.__new__" = true)
    (kecc2 : PySem.W.keepIn K (.ref cc2) = true)
    (bscc2 : PySem.W.subIn K (.ref cc2) (.type "BaseException") = some true)
    (tycc2 : PySem.W.typeIn K (.ref cc2) = some (.type "type"))
    (necc4cc5 : cc4 ≠ cc5) :
    ∃ fd : FuncData, (∀ (s : Shared) (v : Value), BindsTo s fd ⟨[v], []⟩ [("script", v)]) ∧ ∀ base : Heap, K.In base → base.Ns mainGlobals mg → FnOk P w K mg base (L2.CX P w) 8 fa fd ["script"] (spLaw K) := by
  have e := hfa.symm.trans (PySem.W.mg_of X G a31)
  cases e
  let A : Ad := {
    a_way_to := f0,
    d_way_to := PySem.W.fnOf "way_to" "way_to" (defArgs s_way_to) (defBody s_way_to) (defScope s_way_to) .none kV0 dc0 pm0 an0 cd0 ct0,
    a_row_joined := f1,
    d_row_joined := PySem.W.fnOf "row_joined" "row_joined" (defArgs s_row_joined) (defBody s_row_joined) (defScope s_row_joined) .none kV1 dc1 pm1 an1 cd1 ct1,
    a_tables_joined := f2,
    d_tables_joined := PySem.W.fnOf "tables_joined" "tables_joined" (defArgs s_tables_joined) (defBody s_tables_joined) (defScope s_tables_joined) .none kV2 dc2 pm2 an2 cd2 ct2,
    a_by_modulus := f3,
    d_by_modulus := PySem.W.fnOf "by_modulus" "by_modulus" (defArgs s_by_modulus) (defBody s_by_modulus) (defScope s_by_modulus) .none kV3 dc3 pm3 an3 cd3 ct3,
    a_table_power := f4,
    d_table_power := PySem.W.fnOf "table_power" "table_power" (defArgs s_table_power) (defBody s_table_power) (defScope s_table_power) .none kV4 dc4 pm4 an4 cd4 ct4,
    a_Tie_init := f5,
    d_Tie_init := PySem.W.fnOf "__init__" "Tie.__init__" (defArgs s_Tie_init) (defBody s_Tie_init) (defScope s_Tie_init) .none kV5 dc5 pm5 an5 cd5 ct5,
    a_Tie_unpleased := f6,
    d_Tie_unpleased := PySem.W.fnOf "unpleased" "Tie.unpleased" (defArgs s_Tie_unpleased) (defBody s_Tie_unpleased) (defScope s_Tie_unpleased) .none kV6 dc6 pm6 an6 cd6 ct6,
    a_Tie_price := f7,
    d_Tie_price := PySem.W.fnOf "price" "Tie.price" (defArgs s_Tie_price) (defBody s_Tie_price) (defScope s_Tie_price) .none kV7 dc7 pm7 an7 cd7 ct7,
    a_Pull_wish := f8,
    d_Pull_wish := PySem.W.fnOf "wish" "Pull.wish" (defArgs s_Pull_wish) (defBody s_Pull_wish) (defScope s_Pull_wish) .none kV8 dc8 pm8 an8 cd8 ct8,
    a_Push_wish := f9,
    d_Push_wish := PySem.W.fnOf "wish" "Push.wish" (defArgs s_Push_wish) (defBody s_Push_wish) (defScope s_Push_wish) .none kV9 dc9 pm9 an9 cd9 ct9,
    a_tie_of := f10,
    d_tie_of := PySem.W.fnOf "tie_of" "tie_of" (defArgs s_tie_of) (defBody s_tie_of) (defScope s_tie_of) .none kV10 dc10 pm10 an10 cd10 ct10,
    a_rows_of := f11,
    d_rows_of := PySem.W.fnOf "rows_of" "rows_of" (defArgs s_rows_of) (defBody s_rows_of) (defScope s_rows_of) .none kV11 dc11 pm11 an11 cd11 ct11,
    a_across_price := f12,
    d_across_price := PySem.W.fnOf "across_price" "across_price" (defArgs s_across_price) (defBody s_across_price) (defScope s_across_price) .none kV12 dc12 pm12 an12 cd12 ct12,
    a_along_price := f13,
    d_along_price := PySem.W.fnOf "along_price" "along_price" (defArgs s_along_price) (defBody s_along_price) (defScope s_along_price) .none kV13 dc13 pm13 an13 cd13 ct13,
    a_column_table := f14,
    d_column_table := PySem.W.fnOf "column_table" "column_table" (defArgs s_column_table) (defBody s_column_table) (defScope s_column_table) .none kV14 dc14 pm14 an14 cd14 ct14,
    a_step_table := f15,
    d_step_table := PySem.W.fnOf "step_table" "step_table" (defArgs s_step_table) (defBody s_step_table) (defScope s_step_table) .none kV15 dc15 pm15 an15 cd15 ct15,
    a_strip_least := f16,
    d_strip_least := PySem.W.fnOf "strip_least" "strip_least" (defArgs s_strip_least) (defBody s_strip_least) (defScope s_strip_least) .none kV16 dc16 pm16 an16 cd16 ct16,
    a_lows_of := f17,
    d_lows_of := PySem.W.fnOf "lows_of" "lows_of" (defArgs s_lows_of) (defBody s_lows_of) (defScope s_lows_of) .none kV17 dc17 pm17 an17 cd17 ct17,
    a_lowest_into := f18,
    d_lowest_into := PySem.W.fnOf "lowest_into" "lowest_into" (defArgs s_lowest_into) (defBody s_lowest_into) (defScope s_lowest_into) .none kV18 dc18 pm18 an18 cd18 ct18,
    a_walks := f19,
    d_walks := PySem.W.fnOf "walks" "walks" (defArgs s_walks) (defBody s_walks) (defScope s_walks) .none kV19 dc19 pm19 an19 cd19 ct19,
    a_steepest := f20,
    d_steepest := PySem.W.fnOf "steepest" "steepest" (defArgs s_steepest) (defBody s_steepest) (defScope s_steepest) .none kV20 dc20 pm20 an20 cd20 ct20,
    a_lowest_average := f21,
    d_lowest_average := PySem.W.fnOf "lowest_average" "lowest_average" (defArgs s_lowest_average) (defBody s_lowest_average) (defScope s_lowest_average) .none kV21 dc21 pm21 an21 cd21 ct21,
    a_slopes_of := f22,
    d_slopes_of := PySem.W.fnOf "slopes_of" "slopes_of" (defArgs s_slopes_of) (defBody s_slopes_of) (defScope s_slopes_of) .none kV22 dc22 pm22 an22 cd22 ct22,
    a_loop_of := f23,
    d_loop_of := PySem.W.fnOf "loop_of" "loop_of" (defArgs s_loop_of) (defBody s_loop_of) (defScope s_loop_of) .none kV23 dc23 pm23 an23 cd23 ct23,
    a_long_run := f24,
    d_long_run := PySem.W.fnOf "long_run" "long_run" (defArgs s_long_run) (defBody s_long_run) (defScope s_long_run) .none kV24 dc24 pm24 an24 cd24 ct24,
    a__law_cell := f25,
    d__law_cell := PySem.W.fnOf "_law_cell" "_law_cell" (defArgs s__law_cell) (defBody s__law_cell) (defScope s__law_cell) .none kV25 dc25 pm25 an25 cd25 ct25,
    a__law_whole := f26,
    d__law_whole := PySem.W.fnOf "_law_whole" "_law_whole" (defArgs s__law_whole) (defBody s__law_whole) (defScope s__law_whole) .none kV26 dc26 pm26 an26 cd26 ct26,
    a__law_pair := f27,
    d__law_pair := PySem.W.fnOf "_law_pair" "_law_pair" (defArgs s__law_pair) (defBody s__law_pair) (defScope s__law_pair) .none kV27 dc27 pm27 an27 cd27 ct27,
    a__law_strength := f28,
    d__law_strength := PySem.W.fnOf "_law_strength" "_law_strength" (defArgs s__law_strength) (defBody s__law_strength) (defScope s__law_strength) .none kV28 dc28 pm28 an28 cd28 ct28,
    a__law_pattern := f29,
    d__law_pattern := PySem.W.fnOf "_law_pattern" "_law_pattern" (defArgs s__law_pattern) (defBody s__law_pattern) (defScope s__law_pattern) .none kV29 dc29 pm29 an29 cd29 ct29,
    a__law_copy := f30,
    d__law_copy := PySem.W.fnOf "_law_copy" "_law_copy" (defArgs s__law_copy) (defBody s__law_copy) (defScope s__law_copy) .none kV30 dc30 pm30 an30 cd30 ct30,
    a_law := fa,
    d_law := PySem.W.fnOf "law" "law" (defArgs s_law) (defBody s_law) (defScope s_law) .none kV31 dc31 pm31 an31 cd31 ct31,
    c_FloorError := cc0,
    c_BadTie := cc1,
    c_BadStrip := cc2,
    c_Tie := cc3,
    c_Pull := cc4,
    c_Push := cc5 }
  have T : Txt K mg A := {
    F_way_to := fun_mk (st := s_way_to) l0 v0 k0,
    m_way_to := PySem.W.mg_of X G a0,
    F_row_joined := fun_mk (st := s_row_joined) l1 v1 k1,
    m_row_joined := PySem.W.mg_of X G a1,
    F_tables_joined := fun_mk (st := s_tables_joined) l2 v2 k2,
    m_tables_joined := PySem.W.mg_of X G a2,
    F_by_modulus := fun_mk (st := s_by_modulus) l3 v3 k3,
    m_by_modulus := PySem.W.mg_of X G a3,
    F_table_power := fun_mk (st := s_table_power) l4 v4 k4,
    m_table_power := PySem.W.mg_of X G a4,
    F_Tie_init := fun_mk (st := s_Tie_init) l5 v5 k5,
    F_Tie_unpleased := fun_mk (st := s_Tie_unpleased) l6 v6 k6,
    F_Tie_price := fun_mk (st := s_Tie_price) l7 v7 k7,
    F_Pull_wish := fun_mk (st := s_Pull_wish) l8 v8 k8,
    F_Push_wish := fun_mk (st := s_Push_wish) l9 v9 k9,
    F_tie_of := fun_mk (st := s_tie_of) l10 v10 k10,
    m_tie_of := PySem.W.mg_of X G a10,
    F_rows_of := fun_mk (st := s_rows_of) l11 v11 k11,
    m_rows_of := PySem.W.mg_of X G a11,
    F_across_price := fun_mk (st := s_across_price) l12 v12 k12,
    m_across_price := PySem.W.mg_of X G a12,
    F_along_price := fun_mk (st := s_along_price) l13 v13 k13,
    m_along_price := PySem.W.mg_of X G a13,
    F_column_table := fun_mk (st := s_column_table) l14 v14 k14,
    m_column_table := PySem.W.mg_of X G a14,
    F_step_table := fun_mk (st := s_step_table) l15 v15 k15,
    m_step_table := PySem.W.mg_of X G a15,
    F_strip_least := fun_mk (st := s_strip_least) l16 v16 k16,
    m_strip_least := PySem.W.mg_of X G a16,
    F_lows_of := fun_mk (st := s_lows_of) l17 v17 k17,
    m_lows_of := PySem.W.mg_of X G a17,
    F_lowest_into := fun_mk (st := s_lowest_into) l18 v18 k18,
    m_lowest_into := PySem.W.mg_of X G a18,
    F_walks := fun_mk (st := s_walks) l19 v19 k19,
    m_walks := PySem.W.mg_of X G a19,
    F_steepest := fun_mk (st := s_steepest) l20 v20 k20,
    m_steepest := PySem.W.mg_of X G a20,
    F_lowest_average := fun_mk (st := s_lowest_average) l21 v21 k21,
    m_lowest_average := PySem.W.mg_of X G a21,
    F_slopes_of := fun_mk (st := s_slopes_of) l22 v22 k22,
    m_slopes_of := PySem.W.mg_of X G a22,
    F_loop_of := fun_mk (st := s_loop_of) l23 v23 k23,
    m_loop_of := PySem.W.mg_of X G a23,
    F_long_run := fun_mk (st := s_long_run) l24 v24 k24,
    m_long_run := PySem.W.mg_of X G a24,
    F__law_cell := fun_mk (st := s__law_cell) l25 v25 k25,
    m__law_cell := PySem.W.mg_of X G a25,
    F__law_whole := fun_mk (st := s__law_whole) l26 v26 k26,
    m__law_whole := PySem.W.mg_of X G a26,
    F__law_pair := fun_mk (st := s__law_pair) l27 v27 k27,
    m__law_pair := PySem.W.mg_of X G a27,
    F__law_strength := fun_mk (st := s__law_strength) l28 v28 k28,
    m__law_strength := PySem.W.mg_of X G a28,
    F__law_pattern := fun_mk (st := s__law_pattern) l29 v29 k29,
    m__law_pattern := PySem.W.mg_of X G a29,
    F__law_copy := fun_mk (st := s__law_copy) l30 v30 k30,
    m__law_copy := PySem.W.mg_of X G a30,
    F_law := fun_mk (st := s_law) l31 v31 k31,
    m_law := PySem.W.mg_of X G a31,
    m_FloorError := PySem.W.mg_of X G m_cc0,
    m_BadTie := PySem.W.mg_of X G m_cc1,
    m_BadStrip := PySem.W.mg_of X G m_cc2,
    m_Tie := PySem.W.mg_of X G m_cc3,
    m_Pull := PySem.W.mg_of X G m_cc4,
    m_Push := PySem.W.mg_of X G m_cc5,
    b_abs := PySem.W.mg_none_of X G z_abs,
    b_all := PySem.W.mg_none_of X G z_all,
    b_any := PySem.W.mg_none_of X G z_any,
    b_bool := PySem.W.mg_none_of X G z_bool,
    b_divmod := PySem.W.mg_none_of X G z_divmod,
    b_int := PySem.W.mg_none_of X G z_int,
    b_isinstance := PySem.W.mg_none_of X G z_isinstance,
    b_len := PySem.W.mg_none_of X G z_len,
    b_list := PySem.W.mg_none_of X G z_list,
    b_max := PySem.W.mg_none_of X G z_max,
    b_min := PySem.W.mg_none_of X G z_min,
    b_range := PySem.W.mg_none_of X G z_range,
    b_sum := PySem.W.mg_none_of X G z_sum,
    b_tuple := PySem.W.mg_none_of X G z_tuple,
    g_MOST_COLUMNS := gl0.elim fun t e => ⟨t, PySem.W.mg_of X G e⟩,
    g_MOST_MODULUS := gl1.elim fun t e => ⟨t, PySem.W.mg_of X G e⟩,
    cl_Pull := ⟨pgcc4, hdcc4, pocc4, sacc4⟩,
    mk_Pull := ⟨micc4, iacc4, iicc4, kccc4⟩,
    na_Pull_one := ncc4one,
    na_Pull_strength := ncc4strength,
    na_Pull_two := ncc4two,
    me_Pull_price := ⟨macc4price, micc4price, k7⟩,
    me_Pull_unpleased := ⟨macc4unpleased, micc4unpleased, k6⟩,
    me_Pull_wish := ⟨macc4wish, micc4wish, k8⟩,
    cl_Push := ⟨pgcc5, hdcc5, pocc5, sacc5⟩,
    mk_Push := ⟨micc5, iacc5, iicc5, kccc5⟩,
    na_Push_one := ncc5one,
    na_Push_strength := ncc5strength,
    na_Push_two := ncc5two,
    me_Push_price := ⟨macc5price, micc5price, k7⟩,
    me_Push_unpleased := ⟨macc5unpleased, micc5unpleased, k6⟩,
    me_Push_wish := ⟨macc5wish, micc5wish, k9⟩,
    x_FloorError := xcc0,
    k_FloorError := kecc0,
    bs_FloorError := bscc0,
    ty_FloorError := tycc0,
    x_BadTie := xcc1,
    k_BadTie := kecc1,
    bs_BadTie := bscc1,
    ty_BadTie := tycc1,
    x_BadStrip := xcc2,
    k_BadStrip := kecc2,
    bs_BadStrip := bscc2,
    ty_BadStrip := tycc2 }
  refine ⟨A.d_law, fun s v => .of_eq rfl, fun base _ _ => ?_⟩
  refine FnOk.imp (ok_law (P := P) (w := w) (base := base) T) fun vs H Q E q => ?_
  obtain ⟨a, ns, rfl, hS, hl, k⟩ := q
  refine ⟨H, [.scr (ns.map D.int)], _, Same.refl H, All2.cons (rp_scr hS (Rps.of_ints ns)) All2.nil, LTr A necc4cc5 ns hl, fun v H' G' _ o => ?_⟩
  rw [o.bw.inv_fz.inv_bl]
  exact k H'
theorem walk_law {l : PySem.W.OpenLaw} {q : Program} {loose : List Str} {XP : (Str → Option Value) → Heap → Prop} {YP : World → Heap → Prop} {d : DefRec} {K : Params → PySem.W.Frag} (hn : l.most = some 63) (hdf : d.params.defaults = [])
    (hY : ∀ (w : World) (h : Heap), YP w h → (K w.params).In h)
    (F : ∀ (w : World) (mg : Str → Option Value) (fa : Addr) (h : Heap), (K w.params).In h → h.Ns mainGlobals mg → mg d.name = some (.ref fa) →
      ∃ fd : FuncData, (∀ (s : Shared) (u : Value), BindsTo s fd ⟨[u], []⟩ [("script", u)]) ∧ ∀ base : Heap, (K w.params).In base → base.Ns mainGlobals mg → FnOk l.prog w (K w.params) mg base (L2.CX l.prog w) 8 fa fd ["script"] (spLaw (K w.params))) :
    PySem.W.WalkO q loose XP YP l.row.toRowW d [] (fun f vs => PySem.call f vs) :=
  L2.walk_of (n := 63) (k := 8) (x := "script") (CX := fun w => L2.CX l.prog w) (sp := fun w => spLaw (K w.params)) hn (by decide) hdf ⟨rfl, by decide, by decide⟩ hY F (fun _ _ a ns hl _ hS => ⟨a, ns, rfl, hS, hl, fun _ => rfl⟩) fun w H s e s' z => by
    obtain ⟨_, _, _, _, _, _, _, _, _, _, _, _, z⟩ := z
    exact z
theorem law_true : LawTrue := law_holds
end FN
open PySem PySem.W PyProof.Rows
set_option maxRecDepth 100000 in
set_option maxHeartbeats 0 in
theorem PySem.Challenge.cw_spinfloor_k52_whole_near_a_line_holds : PySem.Challenge.rw_spinfloor_k52_whole_near_a_line.Holds := by
  w_on; o_law; k_head; (case hw => w_witness2)
  k_fill
  refine FN.walk_law (l := PySem.Challenge.rw_spinfloor_k52_whole_near_a_line) rfl rfl (fun w h Y => PySem.W.kIn_of Y) ?F
  case F =>
    intro w mg fa h KX G hmg
    refine' FN.all_mk FN.law_true KX G hmg ?m_cc0 ?m_cc1 ?m_cc2 ?m_cc3 ?m_cc4 ?m_cc5 ?a0 ?l0 ?v0 ?k0 ?a1 ?l1 ?v1 ?k1 ?a2 ?l2 ?v2 ?k2 ?a3 ?l3 ?v3 ?k3 ?a4 ?l4 ?v4 ?k4 ?a5 ?l5 ?v5 ?k5 ?a6 ?l6 ?v6 ?k6 ?a7 ?l7 ?v7 ?k7 ?a8 ?l8 ?v8 ?k8 ?a9 ?l9 ?v9 ?k9 ?a10 ?l10 ?v10 ?k10 ?a11 ?l11 ?v11 ?k11 ?a12 ?l12 ?v12 ?k12 ?a13 ?l13 ?v13 ?k13 ?a14 ?l14 ?v14 ?k14 ?a15 ?l15 ?v15 ?k15 ?a16 ?l16 ?v16 ?k16 ?a17 ?l17 ?v17 ?k17 ?a18 ?l18 ?v18 ?k18 ?a19 ?l19 ?v19 ?k19 ?a20 ?l20 ?v20 ?k20 ?a21 ?l21 ?v21 ?k21 ?a22 ?l22 ?v22 ?k22 ?a23 ?l23 ?v23 ?k23 ?a24 ?l24 ?v24 ?k24 ?a25 ?l25 ?v25 ?k25 ?a26 ?l26 ?v26 ?k26 ?a27 ?l27 ?v27 ?k27 ?a28 ?l28 ?v28 ?k28 ?a29 ?l29 ?v29 ?k29 ?a30 ?l30 ?v30 ?k30 ?a31 ?l31 ?v31 ?k31 ?z_abs ?z_all ?z_any ?z_bool ?z_divmod ?z_int ?z_isinstance ?z_len ?z_list ?z_max ?z_min ?z_range ?z_sum ?z_tuple ?gl0 ?gl1 ?pgcc4 ?hdcc4 ?pocc4 ?sacc4 ?micc4 ?kccc4 ?iacc4 ?iicc4 ?ncc4one ?ncc4strength ?ncc4two ?macc4price ?micc4price ?macc4unpleased ?micc4unpleased ?macc4wish ?micc4wish ?pgcc5 ?hdcc5 ?pocc5 ?sacc5 ?micc5 ?kccc5 ?iacc5 ?iicc5 ?ncc5one ?ncc5strength ?ncc5two ?macc5price ?micc5price ?macc5unpleased ?micc5unpleased ?macc5wish ?micc5wish ?xcc0 ?kecc0 ?bscc0 ?tycc0 ?xcc1 ?kecc1 ?bscc1 ?tycc1 ?xcc2 ?kecc2 ?bscc2 ?tycc2 ?necc4cc5
    (case m_cc0 => k_is)
    (case m_cc1 => k_is)
    (case m_cc2 => k_is)
    (case m_cc3 => k_is)
    (case m_cc4 => k_is)
    (case m_cc5 => k_is)
    (case a0 => k_is)
    (case l0 => k_is)
    (case v0 => k_is)
    (case k0 => k_is)
    (case a1 => k_is)
    (case l1 => k_is)
    (case v1 => k_is)
    (case k1 => k_is)
    (case a2 => k_is)
    (case l2 => k_is)
    (case v2 => k_is)
    (case k2 => k_is)
    (case a3 => k_is)
    (case l3 => k_is)
    (case v3 => k_is)
    (case k3 => k_is)
    (case a4 => k_is)
    (case l4 => k_is)
    (case v4 => k_is)
    (case k4 => k_is)
    (case a5 => k_is)
    (case l5 => k_is)
    (case v5 => k_is)
    (case k5 => k_is)
    (case a6 => k_is)
    (case l6 => k_is)
    (case v6 => k_is)
    (case k6 => k_is)
    (case a7 => k_is)
    (case l7 => k_is)
    (case v7 => k_is)
    (case k7 => k_is)
    (case a8 => k_is)
    (case l8 => k_is)
    (case v8 => k_is)
    (case k8 => k_is)
    (case a9 => k_is)
    (case l9 => k_is)
    (case v9 => k_is)
    (case k9 => k_is)
    (case a10 => k_is)
    (case l10 => k_is)
    (case v10 => k_is)
    (case k10 => k_is)
    (case a11 => k_is)
    (case l11 => k_is)
    (case v11 => k_is)
    (case k11 => k_is)
    (case a12 => k_is)
    (case l12 => k_is)
    (case v12 => k_is)
    (case k12 => k_is)
    (case a13 => k_is)
    (case l13 => k_is)
    (case v13 => k_is)
    (case k13 => k_is)
    (case a14 => k_is)
    (case l14 => k_is)
    (case v14 => k_is)
    (case k14 => k_is)
    (case a15 => k_is)
    (case l15 => k_is)
    (case v15 => k_is)
    (case k15 => k_is)
    (case a16 => k_is)
    (case l16 => k_is)
    (case v16 => k_is)
    (case k16 => k_is)
    (case a17 => k_is)
    (case l17 => k_is)
    (case v17 => k_is)
    (case k17 => k_is)
    (case a18 => k_is)
    (case l18 => k_is)
    (case v18 => k_is)
    (case k18 => k_is)
    (case a19 => k_is)
    (case l19 => k_is)
    (case v19 => k_is)
    (case k19 => k_is)
    (case a20 => k_is)
    (case l20 => k_is)
    (case v20 => k_is)
    (case k20 => k_is)
    (case a21 => k_is)
    (case l21 => k_is)
    (case v21 => k_is)
    (case k21 => k_is)
    (case a22 => k_is)
    (case l22 => k_is)
    (case v22 => k_is)
    (case k22 => k_is)
    (case a23 => k_is)
    (case l23 => k_is)
    (case v23 => k_is)
    (case k23 => k_is)
    (case a24 => k_is)
    (case l24 => k_is)
    (case v24 => k_is)
    (case k24 => k_is)
    (case a25 => k_is)
    (case l25 => k_is)
    (case v25 => k_is)
    (case k25 => k_is)
    (case a26 => k_is)
    (case l26 => k_is)
    (case v26 => k_is)
    (case k26 => k_is)
    (case a27 => k_is)
    (case l27 => k_is)
    (case v27 => k_is)
    (case k27 => k_is)
    (case a28 => k_is)
    (case l28 => k_is)
    (case v28 => k_is)
    (case k28 => k_is)
    (case a29 => k_is)
    (case l29 => k_is)
    (case v29 => k_is)
    (case k29 => k_is)
    (case a30 => k_is)
    (case l30 => k_is)
    (case v30 => k_is)
    (case k30 => k_is)
    (case a31 => k_is)
    (case l31 => k_is)
    (case v31 => k_is)
    (case k31 => k_is)
    (case z_abs => k_is)
    (case z_all => k_is)
    (case z_any => k_is)
    (case z_bool => k_is)
    (case z_divmod => k_is)
    (case z_int => k_is)
    (case z_isinstance => k_is)
    (case z_len => k_is)
    (case z_list => k_is)
    (case z_max => k_is)
    (case z_min => k_is)
    (case z_range => k_is)
    (case z_sum => k_is)
    (case z_tuple => k_is)
    (case gl0 => exact ⟨_, by k_is⟩)
    (case gl1 => exact ⟨_, by k_is⟩)
    (case pgcc4 => k_is)
    (case hdcc4 => k_is)
    (case pocc4 => k_is)
    (case sacc4 => k_is)
    (case micc4 => k_is)
    (case kccc4 => k_is)
    (case iacc4 => k_is)
    (case iicc4 => k_is)
    (case ncc4one => k_is)
    (case ncc4strength => k_is)
    (case ncc4two => k_is)
    (case macc4price => k_is)
    (case micc4price => k_is)
    (case macc4unpleased => k_is)
    (case micc4unpleased => k_is)
    (case macc4wish => k_is)
    (case micc4wish => k_is)
    (case pgcc5 => k_is)
    (case hdcc5 => k_is)
    (case pocc5 => k_is)
    (case sacc5 => k_is)
    (case micc5 => k_is)
    (case kccc5 => k_is)
    (case iacc5 => k_is)
    (case iicc5 => k_is)
    (case ncc5one => k_is)
    (case ncc5strength => k_is)
    (case ncc5two => k_is)
    (case macc5price => k_is)
    (case micc5price => k_is)
    (case macc5unpleased => k_is)
    (case micc5unpleased => k_is)
    (case macc5wish => k_is)
    (case micc5wish => k_is)
    (case xcc0 => k_exc)
    (case kecc0 => k_is)
    (case bscc0 => k_is)
    (case tycc0 => k_is)
    (case xcc1 => k_exc)
    (case kecc1 => k_is)
    (case bscc1 => k_is)
    (case tycc1 => k_is)
    (case xcc2 => k_exc)
    (case kecc2 => k_is)
    (case bscc2 => k_is)
    (case tycc2 => k_is)
    (case necc4cc5 => first | decide | (intro z; cases z) | omega)

