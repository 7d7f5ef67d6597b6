import PyProof.Rows.All
import Wide.All
import OpenK.AllK
import Wide.FinOn
import HandS.ForMost
import HandS.ForExc
import KE.KEqNest
import PyProof.NeKinds
import HandS.Style
import HandS.IsInst
import HandS.Text
import KE.DataCmp
import KE.SortData
import KE.SortKeyHeap
import HandS.SortKw
import HandS.More
import KE.KEqDict
import KE.DataEq
import HandS.TupLe
import PyProof.StrBlock2
import PySem.Challenge.RW_parcelmend_k23_whole_nothing_is_lost
set_option Elab.async false
set_option linter.all false
set_option maxRecDepth 100000
set_option maxHeartbeats 4000000
namespace Pq
open PySem PySem.Spec PyProof.Rows L2

/-! ### data: what a value is, whole, as long as nobody changes it -/
inductive Dat where
  | non | bl (b : Bool) | int (i : Int) | str (x : Str)
  | tup (xs : List Dat) | lst (xs : List Dat)
  | dct (ks : List Key) (xs : List Dat)
  | obj (c : Str) (fs : List Str) (xs : List Dat)
  | scr (xs : List Dat)

mutual
inductive R (K : PySem.W.Frag) (cm : Str → Addr) (F : Hp) : V → Dat → Prop
  | non : R K cm F .non .non
  | bl (b : Bool) : R K cm F (.bl b) (.bl b)
  | int (i : Int) : R K cm F (.int i) (.int i)
  | str (x : Str) : R K cm F (.str x) (.str x)
  | tup {a : Addr} {vs : List V} {xs : List Dat} : SqT K F a vs → Rs K cm F vs xs → R K cm F (.ref a) (.tup xs)
  | lst {a : Addr} {vs : List V} {xs : List Dat} : Rd F a (.lst vs) → Rs K cm F vs xs → R K cm F (.ref a) (.lst xs)
  | dct {a : Addr} {kvs : List (Key × V)} {ks : List Key} {xs : List Dat} : Rd F a (.dK kvs) → kvs.map (·.1) = ks → Rs K cm F (kvs.map (·.2)) xs → R K cm F (.ref a) (.dct ks xs)
  | obj {a dx : Addr} {c : Str} {fvs : List (Str × V)} {fs : List Str} {xs : List Dat} : F a = some (.ins (cm c) dx fvs) → fvs.map (·.1) = fs → Rs K cm F (fvs.map (·.2)) xs → R K cm F (.ref a) (.obj c fs xs)
  | scr {a : Addr} {vs : List V} {xs : List Dat} : SqL K F a vs → Rs K cm F vs xs → R K cm F (.ref a) (.scr xs)
inductive Rs (K : PySem.W.Frag) (cm : Str → Addr) (F : Hp) : List V → List Dat → Prop
  | nil : Rs K cm F [] []
  | cons {v : V} {vs : List V} {x : Dat} {xs : List Dat} : R K cm F v x → Rs K cm F vs xs → Rs K cm F (v :: vs) (x :: xs)
end

section
variable {K : PySem.W.Frag} {cm : Str → Addr} {F F' H H' : Hp}
theorem same_rd {a : Addr} {u : HO} (e : Same F F') (h : Rd F a u) : Rd F' a u := by
  rcases h with h | ⟨o, h⟩
  · exact .inl (e _ _ h)
  · exact .inr ⟨o, e _ _ h⟩
theorem same_sqT {a : Addr} {vs : List V} (e : Same F F') (h : SqT K F a vs) : SqT K F' a vs := by
  rcases h with (h | ⟨o, h⟩) | h
  · exact .inl (.inl (e _ _ h))
  · exact .inl (.inr ⟨o, e _ _ h⟩)
  · exact .inr h
mutual
theorem R.mono (e : Same F F') : ∀ {v : V} {x : Dat}, R K cm F v x → R K cm F' v x
  | _, _, .non => .non
  | _, _, .bl b => .bl b
  | _, _, .int i => .int i
  | _, _, .str x => .str x
  | _, _, .tup h r => .tup (same_sqT e h) (Rs.mono e r)
  | _, _, .lst h r => .lst (same_rd e h) (Rs.mono e r)
  | _, _, .dct h k r => .dct (same_rd e h) k (Rs.mono e r)
  | _, _, .obj h k r => .obj (e _ _ h) k (Rs.mono e r)
  | _, _, .scr h r => .scr (e.seq h) (Rs.mono e r)
theorem Rs.mono (e : Same F F') : ∀ {vs : List V} {xs : List Dat}, Rs K cm F vs xs → Rs K cm F' vs xs
  | _, _, .nil => .nil
  | _, _, .cons r t => .cons (R.mono e r) (Rs.mono e t)
end
theorem Rs.length : ∀ {vs : List V} {xs : List Dat}, Rs K cm F vs xs → vs.length = xs.length
  | _, _, .nil => rfl
  | _, _, .cons _ t => by rw [List.length_cons, List.length_cons, Rs.length t]
theorem Rs.get : ∀ {vs : List V} {xs : List Dat} {i : Nat} {x : Dat}, Rs K cm F vs xs → xs[i]? = some x → ∃ v, vs[i]? = some v ∧ R K cm F v x
  | _, _, _, _, .nil, e => by simp at e
  | _, _, 0, _, .cons r _, e => by simp at e; subst e; exact ⟨_, rfl, r⟩
  | _, _, i + 1, x, .cons _ t, e => by
    obtain ⟨v, h1, h2⟩ := Rs.get (i := i) (x := x) t (by simpa using e)
    exact ⟨v, by simpa using h1, h2⟩
theorem Rs.getV : ∀ {vs : List V} {xs : List Dat} {i : Nat} {v : V}, Rs K cm F vs xs → vs[i]? = some v → ∃ x, xs[i]? = some x ∧ R K cm F v x
  | _, _, _, _, .nil, e => by simp at e
  | _, _, 0, _, .cons r _, e => by simp at e; subst e; exact ⟨_, rfl, r⟩
  | _, _, i + 1, x, .cons _ t, e => by
    obtain ⟨v, h1, h2⟩ := Rs.getV (i := i) (v := x) t (by simpa using e)
    exact ⟨v, by simpa using h1, h2⟩
theorem Rs.append : ∀ {vs ws : List V} {xs ys : List Dat}, Rs K cm F vs xs → Rs K cm F ws ys → Rs K cm F (vs ++ ws) (xs ++ ys)
  | _, _, _, _, .nil, s => s
  | _, _, _, _, .cons r t, s => .cons r (Rs.append t s)
theorem Rs.drop : ∀ {vs : List V} {xs : List Dat} (n : Nat), Rs K cm F vs xs → Rs K cm F (vs.drop n) (xs.drop n)
  | _, _, 0, r => r
  | _, _, _ + 1, .nil => .nil
  | _, _, n + 1, .cons _ t => Rs.drop n t
theorem Rs.take : ∀ {vs : List V} {xs : List Dat} (n : Nat), Rs K cm F vs xs → Rs K cm F (vs.take n) (xs.take n)
  | _, _, 0, _ => .nil
  | _, _, _ + 1, .nil => .nil
  | _, _, n + 1, .cons r t => .cons r (Rs.take n t)
theorem Rs.reverse {vs : List V} {xs : List Dat} (h : Rs K cm F vs xs) : Rs K cm F vs.reverse xs.reverse := by
  induction vs generalizing xs with
  | nil => cases h; exact .nil
  | cons v vs ih =>
    cases h with
    | cons r t =>
      rw [List.reverse_cons, List.reverse_cons]
      exact (ih t).append (.cons r .nil)

/-! ### how a heap grows: F what is settled, H what stands -/
structure Ext (F H F' H' : Hp) : Prop where
  f : Same F F'
  h : Same H H'
  fh : Same F' H'
  new : ∀ a o, F' a = some o → F a = none → H a = none
theorem Ext.refl (e : Same F H) : Ext F H F H := ⟨Same.refl F, Same.refl H, e, fun a o h n => by rw [h] at n; cases n⟩
theorem Ext.trans {F1 H1 F2 H2 : Hp} (a : Ext F H F1 H1) (b : Ext F1 H1 F2 H2) : Ext F H F2 H2 :=
  ⟨a.f.trans b.f, a.h.trans b.h, b.fh, fun x o h n => by
    cases q : F1 x with
    | some u => exact a.new x u q n
    | none => exact a.h.free (b.new x o h q)⟩
theorem Ext.keepH {H2 : Hp} (a : Ext F H F' H') (b : Same H' H2) : Ext F H F' H2 := ⟨a.f, a.h.trans b, a.fh.trans b, a.new⟩
theorem same_new {p : Addr} {o : HO} (h : H p = none) : Same H (upd H p o) := fun a u e => by
  rw [upd_ne (ne_of_none e h)]
  exact e
/-- a settled object is laid -/
theorem Ext.laid (e : Same F H) {p : Addr} {o : HO} (h : H p = none) : Ext F H (upd F p o) (upd H p o) := by
  have hf : F p = none := e.free h
  refine ⟨same_new hf, same_new h, fun a u q => ?_, fun a u q n => ?_⟩
  · by_cases hp : a = p
    · subst hp
      rw [upd_same] at q ⊢
      exact q
    · rw [upd_ne hp] at q ⊢
      exact e a u q
  · by_cases hp : a = p
    · subst hp
      exact h
    · rw [upd_ne hp] at q
      rw [q] at n
      cases n
/-- an open object is laid -/
theorem Ext.open (e : Same F H) {p : Addr} {o : HO} (h : H p = none) : Ext F H F (upd H p o) := (Ext.refl e).keepH (same_new h)

/-! ### what a place of the frame holds: settled data, or objects of its own -/
inductive SV where
  | fro (d : Dat)
  | ol (xs : List SV)
  | od (ks : List Key) (xs : List SV)
  | oo (a : Addr) (c : Str) (fs : List Str) (xs : List SV)
  | tp (xs : List SV)

mutual
inductive RO (K : PySem.W.Frag) (cm : Str → Addr) (F H : Hp) : V → SV → List Addr → Prop
  | fro {v : V} {d : Dat} : R K cm F v d → RO K cm F H v (.fro d) []
  | ol {a : Addr} {vs : List V} {xs : List SV} {A : List Addr} : F a = none → H a = some (.lst vs) → ROs K cm F H vs xs A → RO K cm F H (.ref a) (.ol xs) (a :: A)
  | od {a : Addr} {kvs : List (Key × V)} {ks : List Key} {xs : List SV} {A : List Addr} : F a = none → H a = some (.dK kvs) → kvs.map (·.1) = ks → ROs K cm F H (kvs.map (·.2)) xs A → RO K cm F H (.ref a) (.od ks xs) (a :: A)
  | oo {a dx : Addr} {c : Str} {fvs : List (Str × V)} {fs : List Str} {xs : List SV} {A : List Addr} : F a = none → H a = some (.ins (cm c) dx fvs) → fvs.map (·.1) = fs → ROs K cm F H (fvs.map (·.2)) xs A → RO K cm F H (.ref a) (.oo a c fs xs) (a :: A)
  | tp {a : Addr} {vs : List V} {xs : List SV} {A : List Addr} : F a = none → H a = some (.tup vs) → ROs K cm F H vs xs A → RO K cm F H (.ref a) (.tp xs) (a :: A)
inductive ROs (K : PySem.W.Frag) (cm : Str → Addr) (F H : Hp) : List V → List SV → List Addr → Prop
  | nil : ROs K cm F H [] [] []
  | cons {v : V} {vs : List V} {x : SV} {xs : List SV} {A B : List Addr} : RO K cm F H v x A → ROs K cm F H vs xs B → ROs K cm F H (v :: vs) (x :: xs) (A ++ B)
end

/-- what is needed of F and H for the places: F grows outside, H keeps -/
theorem ext_none (e : Ext F H F' H') {a : Addr} {o : HO} (h : H a = some o) (n : F a = none) : F' a = none := by
  cases q : F' a with
  | none => rfl
  | some u =>
    have z := e.new a u q n
    rw [h] at z
    cases z
mutual
theorem RO.ext (e : Ext F H F' H') : ∀ {v : V} {x : SV} {A : List Addr}, RO K cm F H v x A → RO K cm F' H' v x A
  | _, _, _, .fro r => .fro (r.mono e.f)
  | _, _, _, .ol n h r => .ol (ext_none e h n) (e.h _ _ h) (ROs.ext e r)
  | _, _, _, .od n h k r => .od (ext_none e h n) (e.h _ _ h) k (ROs.ext e r)
  | _, _, _, .oo n h k r => .oo (ext_none e h n) (e.h _ _ h) k (ROs.ext e r)
  | _, _, _, .tp n h r => .tp (ext_none e h n) (e.h _ _ h) (ROs.ext e r)
theorem ROs.ext (e : Ext F H F' H') : ∀ {vs : List V} {xs : List SV} {A : List Addr}, ROs K cm F H vs xs A → ROs K cm F' H' vs xs A
  | _, _, _, .nil => .nil
  | _, _, _, .cons r t => .cons (RO.ext e r) (ROs.ext e t)
end
/-! .. where an object outside is changed -/
mutual
theorem RO.out {b : Addr} {o : HO} : ∀ {v : V} {x : SV} {A : List Addr}, RO K cm F H v x A → b ∉ A → RO K cm F (upd H b o) v x A
  | _, _, _, .fro r, _ => .fro r
  | _, _, _, .ol n h r, hb => .ol n (by rw [upd_ne (fun z => hb (by rw [z]; exact List.mem_cons_self))]; exact h) (ROs.out r fun z => hb (List.mem_cons_of_mem _ z))
  | _, _, _, .od n h k r, hb => .od n (by rw [upd_ne (fun z => hb (by rw [z]; exact List.mem_cons_self))]; exact h) k (ROs.out r fun z => hb (List.mem_cons_of_mem _ z))
  | _, _, _, .oo n h k r, hb => .oo n (by rw [upd_ne (fun z => hb (by rw [z]; exact List.mem_cons_self))]; exact h) k (ROs.out r fun z => hb (List.mem_cons_of_mem _ z))
  | _, _, _, .tp n h r, hb => .tp n (by rw [upd_ne (fun z => hb (by rw [z]; exact List.mem_cons_self))]; exact h) (ROs.out r fun z => hb (List.mem_cons_of_mem _ z))
theorem ROs.out {b : Addr} {o : HO} : ∀ {vs : List V} {xs : List SV} {A : List Addr}, ROs K cm F H vs xs A → b ∉ A → ROs K cm F (upd H b o) vs xs A
  | _, _, _, .nil, _ => .nil
  | _, _, _, .cons r t, hb => .cons (RO.out r fun z => hb (List.mem_append_left _ z)) (ROs.out t fun z => hb (List.mem_append_right _ z))
end
/-! its own addresses stand in H and aren't settled -/
mutual
theorem RO.own : ∀ {v : V} {x : SV} {A : List Addr}, RO K cm F H v x A → ∀ a ∈ A, F a = none ∧ ∃ o, H a = some o
  | _, _, _, .fro _, a, h => by simp at h
  | _, _, _, .ol n h r, b, hb => by
    rcases List.mem_cons.mp hb with rfl | hb
    · exact ⟨n, _, h⟩
    · exact ROs.own r b hb
  | _, _, _, .od n h k r, b, hb => by
    rcases List.mem_cons.mp hb with rfl | hb
    · exact ⟨n, _, h⟩
    · exact ROs.own r b hb
  | _, _, _, .oo n h k r, b, hb => by
    rcases List.mem_cons.mp hb with rfl | hb
    · exact ⟨n, _, h⟩
    · exact ROs.own r b hb
  | _, _, _, .tp n h r, b, hb => by
    rcases List.mem_cons.mp hb with rfl | hb
    · exact ⟨n, _, h⟩
    · exact ROs.own r b hb
theorem ROs.own : ∀ {vs : List V} {xs : List SV} {A : List Addr}, ROs K cm F H vs xs A → ∀ a ∈ A, F a = none ∧ ∃ o, H a = some o
  | _, _, _, .nil, a, h => by simp at h
  | _, _, _, .cons r t, a, h => by
    rcases List.mem_append.mp h with h | h
    · exact RO.own r a h
    · exact ROs.own t a h
end
/-! settling -/
mutual
def frz : SV → Dat
  | .fro d => d
  | .ol xs => .lst (frzs xs)
  | .od ks xs => .dct ks (frzs xs)
  | .oo _ c fs xs => .obj c fs (frzs xs)
  | .tp xs => .tup (frzs xs)
def frzs : List SV → List Dat
  | [] => []
  | x :: xs => frz x :: frzs xs
end
theorem frzs_map : ∀ xs : List SV, frzs xs = xs.map frz
  | [] => by rw [frzs]; rfl
  | x :: xs => by rw [frzs, frzs_map xs]; rfl
/-- F with what stands in H at A -/
def plus (F H : Hp) (A : List Addr) : Hp := fun b => if b ∈ A then H b else F b
theorem plus_in {A : List Addr} {a : Addr} (h : a ∈ A) : plus F H A a = H a := by unfold plus; rw [if_pos h]
theorem plus_out {A : List Addr} {a : Addr} (h : a ∉ A) : plus F H A a = F a := by unfold plus; rw [if_neg h]
theorem plus_same {A : List Addr} (h : ∀ a ∈ A, F a = none) : Same F (plus F H A) := fun a o e => by
  by_cases q : a ∈ A
  · rw [h a q] at e; cases e
  · rw [plus_out q]; exact e
theorem plus_le {A : List Addr} (e : Same F H) : Same (plus F H A) H := fun a o q => by
  by_cases z : a ∈ A
  · rw [plus_in z] at q; exact q
  · rw [plus_out z] at q; exact e a o q
theorem plus_mono {A B : List Addr} (e : Same F H) (h : ∀ a ∈ A, a ∈ B) : Same (plus F H A) (plus F H B) := fun a o q => by
  by_cases z : a ∈ B
  · rw [plus_in z]; exact plus_le e a o q
  · rw [plus_out (fun k => z (h a k))] at q
    rw [plus_out z]; exact q
mutual
theorem RO.frz (e : Same F H) : ∀ {v : V} {x : SV} {A : List Addr}, RO K cm F H v x A → R K cm (plus F H A) v (Pq.frz x)
  | _, _, _, .fro r => by rw [Pq.frz]; exact r.mono (plus_same fun a h => by simp at h)
  | _, _, _, @RO.ol _ _ _ _ a vs xs A n h r => by
    rw [Pq.frz]
    exact .lst (.inl (by rw [plus_in List.mem_cons_self]; exact h)) ((ROs.frz e r).mono (plus_mono e fun b hb => List.mem_cons_of_mem _ hb))
  | _, _, _, @RO.od _ _ _ _ a kvs ks xs A n h k r => by
    rw [Pq.frz]
    exact .dct (.inl (by rw [plus_in List.mem_cons_self]; exact h)) k ((ROs.frz e r).mono (plus_mono e fun b hb => List.mem_cons_of_mem _ hb))
  | _, _, _, @RO.oo _ _ _ _ a dx c fvs fs xs A n h k r => by
    rw [Pq.frz]
    exact .obj (by rw [plus_in List.mem_cons_self]; exact h) k ((ROs.frz e r).mono (plus_mono e fun b hb => List.mem_cons_of_mem _ hb))
  | _, _, _, @RO.tp _ _ _ _ a vs xs A n h r => by
    rw [Pq.frz]
    exact .tup (.inl (.inl (by rw [plus_in List.mem_cons_self]; exact h))) ((ROs.frz e r).mono (plus_mono e fun b hb => List.mem_cons_of_mem _ hb))
theorem ROs.frz (e : Same F H) : ∀ {vs : List V} {xs : List SV} {A : List Addr}, ROs K cm F H vs xs A → Rs K cm (plus F H A) vs (frzs xs)
  | _, _, _, .nil => by rw [frzs]; exact .nil
  | _, _, _, @ROs.cons _ _ _ _ v vs x xs A B r t => by
    rw [frzs]
    exact .cons ((RO.frz e r).mono (plus_mono e fun b hb => List.mem_append_left _ hb)) ((ROs.frz e t).mono (plus_mono e fun b hb => List.mem_append_right _ hb))
end
end
end Pq

namespace Pq
open PySem PySem.Spec PyProof.Rows L2

/-! ### the places of a frame -/
abbrev Rho := List (Option SV)
structure Rel (K : PySem.W.Frag) (cm : Str → Addr) (F H : Hp) (σ : L2.St) (ρ : Rho) (As : Nat → List Addr) : Prop where
  len : σ.length = ρ.length
  fh : Same F H
  at_ : ∀ i sv, ρ[i]? = some (some sv) → ∃ v, σ[i]? = some (some v) ∧ RO K cm F H v sv (As i)
  nd : ∀ i, (As i).Nodup
  sep : ∀ i j, i ≠ j → ∀ a ∈ As i, a ∉ As j
  own : ∀ i, ∀ a ∈ As i, F a = none ∧ ∃ o, H a = some o
section
variable {K : PySem.W.Frag} {cm : Str → Addr} {F F' H H' : Hp} {σ : L2.St} {ρ : Rho} {As : Nat → List Addr}
theorem Rel.ext (r : Rel K cm F H σ ρ As) (e : Ext F H F' H') : Rel K cm F' H' σ ρ As :=
  ⟨r.len, e.fh, fun i sv h => by
    obtain ⟨v, h1, h2⟩ := r.at_ i sv h
    exact ⟨v, h1, h2.ext e⟩, r.nd, r.sep, fun i a h => by
    obtain ⟨n, o, q⟩ := r.own i a h
    exact ⟨ext_none e q n, o, e.h _ _ q⟩⟩
/-- a place is given a value of its own -/
theorem Rel.set (r : Rel K cm F H σ ρ As) {i : Nat} {v : V} {sv : SV} {A : List Addr} (h : RO K cm F H v sv A) (nd : A.Nodup) (hA : ∀ j, j ≠ i → ∀ a ∈ A, a ∉ As j) :
    Rel K cm F H (σ.set i (some v)) (ρ.set i (some sv)) (fun j => if j = i then A else As j) where
  len := by rw [List.length_set, List.length_set]; exact r.len
  fh := r.fh
  at_ := fun j sv' e => by
    by_cases hj : i = j
    · subst hj
      by_cases hl : i < ρ.length
      · rw [List.getElem?_set_self hl] at e
        cases e
        refine ⟨v, List.getElem?_set_self (by rw [r.len]; exact hl), ?_⟩
        rw [if_pos rfl]
        exact h
      · rw [List.getElem?_eq_none (by rw [List.length_set]; omega)] at e
        cases e
    · rw [List.getElem?_set_ne hj] at e
      obtain ⟨w, h1, h2⟩ := r.at_ j sv' e
      refine ⟨w, by rw [List.getElem?_set_ne hj]; exact h1, ?_⟩
      rw [if_neg (fun z => hj z.symm)]
      exact h2
  nd := fun j => by
    by_cases hj : j = i
    · simp only [if_pos hj]; exact nd
    · simp only [if_neg hj]; exact r.nd j
  sep := fun j k hjk a ha hb => by
    by_cases hj : j = i
    · simp only [if_pos hj] at ha
      by_cases hk : k = i
      · exact hjk (hj.trans hk.symm)
      · simp only [if_neg hk] at hb
        exact hA k hk a ha hb
    · simp only [if_neg hj] at ha
      by_cases hk : k = i
      · simp only [if_pos hk] at hb
        exact hA j hj a hb ha
      · simp only [if_neg hk] at hb
        exact r.sep j k hjk a ha hb
  own := fun j a ha => by
    by_cases hj : j = i
    · simp only [if_pos hj] at ha
      exact h.own a ha
    · simp only [if_neg hj] at ha
      exact r.own j a ha
/-- .. settled data -/
theorem Rel.setD (r : Rel K cm F H σ ρ As) {i : Nat} {v : V} {d : Dat} (h : R K cm F v d) :
    Rel K cm F H (σ.set i (some v)) (ρ.set i (some (.fro d))) (fun j => if j = i then [] else As j) := r.set (.fro h) .nil fun _ _ a ha => by simp at ha
/-- .. what is new -/
theorem Rel.setN {F0 H0 : Hp} (r : Rel K cm F0 H0 σ ρ As) (e : Ext F0 H0 F H) {i : Nat} {v : V} {sv : SV} {A : List Addr} (h : RO K cm F H v sv A) (nd : A.Nodup) (hA : ∀ a ∈ A, H0 a = none) :
    Rel K cm F H (σ.set i (some v)) (ρ.set i (some sv)) (fun j => if j = i then A else As j) := (r.ext e).set h nd fun j _ a ha hb => by
  obtain ⟨_, o, q⟩ := r.own j a hb
  rw [hA a ha] at q
  cases q
/-- forgetting places -/
theorem Rel.weak (r : Rel K cm F H σ ρ As) {σ' : L2.St} {ρ' : Rho} (hl : σ'.length = ρ'.length) (h : ∀ (i : Nat) (sv : SV), ρ'[i]? = some (some sv) → ρ[i]? = some (some sv) ∧ σ'[i]? = σ[i]?) : Rel K cm F H σ' ρ' As :=
  ⟨hl, r.fh, fun i sv e => by
    obtain ⟨h1, h2⟩ := h i sv e
    obtain ⟨v, h3, h4⟩ := r.at_ i sv h1
    exact ⟨v, h2.trans h3, h4⟩, r.nd, r.sep, r.own⟩
/-- a place is settled -/
def frzAt (i : Nat) (ρ : Rho) : Rho := match ρ[i]? with
  | some (some sv) => ρ.set i (some (.fro (frz sv)))
  | _ => ρ
theorem plus_ext (r : Rel K cm F H σ ρ As) (i : Nat) : Same F (plus F H (As i)) ∧ Same (plus F H (As i)) H := ⟨plus_same fun a h => (r.own i a h).1, plus_le r.fh⟩
theorem set_id {α : Type} {l : List α} {i : Nat} {x : α} (h : l[i]? = some x) : l.set i x = l := by
  apply List.ext_getElem?
  intro j
  by_cases hj : i = j
  · subst hj
    have hl : i < l.length := (List.getElem?_eq_some_iff.mp h).1
    rw [List.getElem?_set_self hl, h]
  · rw [List.getElem?_set_ne hj]
mutual
theorem RO.plus {B : List Addr} (hB : Same F H) : ∀ {v : V} {x : SV} {A : List Addr}, RO K cm F H v x A → (∀ a ∈ A, a ∉ B) → (∀ a ∈ B, F a = none) → RO K cm (plus F H B) H v x A
  | _, _, _, .fro r, _, hF => .fro (r.mono (plus_same hF))
  | _, _, _, .ol n h r, hb, hF => .ol (by rw [plus_out (hb _ List.mem_cons_self)]; exact n) h (ROs.plus hB r (fun a ha => hb a (List.mem_cons_of_mem _ ha)) hF)
  | _, _, _, .od n h k r, hb, hF => .od (by rw [plus_out (hb _ List.mem_cons_self)]; exact n) h k (ROs.plus hB r (fun a ha => hb a (List.mem_cons_of_mem _ ha)) hF)
  | _, _, _, .oo n h k r, hb, hF => .oo (by rw [plus_out (hb _ List.mem_cons_self)]; exact n) h k (ROs.plus hB r (fun a ha => hb a (List.mem_cons_of_mem _ ha)) hF)
  | _, _, _, .tp n h r, hb, hF => .tp (by rw [plus_out (hb _ List.mem_cons_self)]; exact n) h (ROs.plus hB r (fun a ha => hb a (List.mem_cons_of_mem _ ha)) hF)
theorem ROs.plus {B : List Addr} (hB : Same F H) : ∀ {vs : List V} {xs : List SV} {A : List Addr}, ROs K cm F H vs xs A → (∀ a ∈ A, a ∉ B) → (∀ a ∈ B, F a = none) → ROs K cm (plus F H B) H vs xs A
  | _, _, _, .nil, _, _ => .nil
  | _, _, _, .cons r t, hb, hF => .cons (RO.plus hB r (fun a ha => hb a (List.mem_append_left _ ha)) hF) (ROs.plus hB t (fun a ha => hb a (List.mem_append_right _ ha)) hF)
end
theorem Rel.frz (r : Rel K cm F H σ ρ As) (i : Nat) : Rel K cm (plus F H (As i)) H σ (frzAt i ρ) (fun j => if j = i then [] else As j) := by
  have hF : ∀ a ∈ As i, F a = none := fun a h => (r.own i a h).1
  have other : ∀ j, j ≠ i → ∀ sv, ρ[j]? = some (some sv) → ∃ v, σ[j]? = some (some v) ∧ RO K cm (plus F H (As i)) H v sv (As j) := fun j hj sv e => by
    obtain ⟨v, h1, h2⟩ := r.at_ j sv e
    exact ⟨v, h1, h2.plus r.fh (r.sep j i hj) hF⟩
  refine ⟨?_, plus_le r.fh, fun j sv e => ?_, fun j => ?_, fun j k hjk a ha hb => ?_, fun j a ha => ?_⟩
  · unfold frzAt
    split
    · rw [List.length_set]; exact r.len
    · exact r.len
  · unfold frzAt at e
    split at e
    · rename_i sv0 h0
      by_cases hj : i = j
      · subst hj
        have hl : i < ρ.length := (List.getElem?_eq_some_iff.mp h0).1
        rw [List.getElem?_set_self hl] at e
        cases e
        obtain ⟨v, h1, h2⟩ := r.at_ i sv0 h0
        refine ⟨v, h1, ?_⟩
        rw [if_pos rfl]
        exact .fro (h2.frz r.fh)
      · rw [List.getElem?_set_ne hj] at e
        rw [if_neg (fun z => hj z.symm)]
        exact other j (fun z => hj z.symm) sv e
    · rename_i hno
      by_cases hj : j = i
      · subst hj
        exact (hno sv e).elim
      · rw [if_neg hj]
        exact other j hj sv e
  · by_cases hj : j = i
    · simp only [if_pos hj]; exact .nil
    · simp only [if_neg hj]; exact r.nd j
  · by_cases hj : j = i
    · simp only [if_pos hj] at ha; simp at ha
    · by_cases hk : k = i
      · simp only [if_pos hk] at hb; simp at hb
      · simp only [if_neg hj] at ha; simp only [if_neg hk] at hb
        exact r.sep j k hjk a ha hb
  · by_cases hj : j = i
    · simp only [if_pos hj] at ha; simp at ha
    · simp only [if_neg hj] at ha
      obtain ⟨n, o⟩ := r.own j a ha
      exact ⟨by rw [plus_out (r.sep j i hj a ha)]; exact n, o⟩
end

/-! ### readings by data -/
section
variable (K : PySem.W.Frag) (cm : Str → Addr)
/-- an expression: settled data -/
def ofE (f : Rho → Option Dat) : TE := fun σ H Q => ∃ F ρ As d, Rel K cm F H σ ρ As ∧ f ρ = some d ∧ ∀ v F' H', Ext F H F' H' → R K cm F' v d → Q v H'
/-- .. what is new and its own -/
def ofO (f : Rho → Option SV) : TE := fun σ H Q => ∃ F ρ As sv, Rel K cm F H σ ρ As ∧ f ρ = some sv ∧ ∀ v F' H' A, Ext F H F' H' → RO K cm F' H' v sv A → A.Nodup → (∀ a ∈ A, H a = none) → Q v H'
def ofT (f : Rho → Option Bool) : TT := fun σ H Q => ∃ F ρ As b, Rel K cm F H σ ρ As ∧ f ρ = some b ∧ ∀ F' H', Ext F H F' H' → Q b H'
def ofA (f : Rho → Option (List Dat)) : TA := fun σ H Q => ∃ F ρ As ds, Rel K cm F H σ ρ As ∧ f ρ = some ds ∧ ∀ vs F' H', Ext F H F' H' → Rs K cm F' vs ds → Q vs H'
/-- an exception that leaves: its class by name, its fields -/
def ExcP (F H : Hp) (n : Str) (fs : List Str) (xs : List Dat) (E : Value → Option Addr → Hp → Prop) : Prop :=
  (fs = [] → ∀ F' H', Ext F H F' H' → E (.ref (cm n)) none H') ∧
    (fs ≠ [] → ∀ F' H' d vs, Ext F H F' H' → H d = none → F' d = none → H' d = some (.xd (fs.zip vs)) → Rs K cm F' vs xs → E (.ref (cm n)) (some d) H')
inductive Out where
  | ok (sv : SV)
  | exc (n : Str) (fs : List Str) (xs : List Dat)
inductive Res where
  | nx (ρ : Rho) | ret (sv : SV) | brk (ρ : Rho) | cont (ρ : Rho) | exc (n : Str) (fs : List Str) (xs : List Dat) | bad
/-- the state of a body: F0, H0 the entry's -/
def Sta (F0 H0 : Hp) (ρ : Rho) (σ : L2.St) (H : Hp) : Prop := ∃ F As, Rel K cm F H σ ρ As ∧ Ext F0 H0 F H ∧ ∀ i, ∀ a ∈ As i, H0 a = none
def Post (W : L2.WX) (F0 H0 : Hp) (D : Ends) : Res → Prop
  | .nx ρ => ∀ σ' H', Sta K cm F0 H0 ρ σ' H' → D.nx σ' H'
  | .brk ρ => ∀ σ' H', Sta K cm F0 H0 ρ σ' H' → D.bk σ' H'
  | .cont ρ => ∀ σ' H', Sta K cm F0 H0 ρ σ' H' → D.ct σ' H'
  | .ret sv => ∀ v F' H' A, Ext F0 H0 F' H' → RO K cm F' H' v sv A → A.Nodup → (∀ a ∈ A, H0 a = none) → D.rt v H'
  | .exc n fs xs => ∀ σ', ExcP K cm F0 H0 n fs xs fun c d H' => W c d σ' H'
  | .bad => False
def ofS (W : L2.WX) (f : Rho → Res) : TS := fun D σ H => ∃ F0 H0 ρ, Sta K cm F0 H0 ρ σ H ∧ Post K cm W F0 H0 D (f ρ)
/-- a def's promise -/
def spX (g : List Dat → Option Out) : Sp := fun vs H Q E => ∃ F ds o, Same F H ∧ Rs K cm F vs ds ∧ g ds = some o ∧ match o with
  | .ok sv => ∀ v F' H' A, Ext F H F' H' → RO K cm F' H' v sv A → A.Nodup → (∀ a ∈ A, H a = none) → Q v H'
  | .exc n fs xs => ExcP K cm F H n fs xs E
end

section
variable {X : Cx} {cm : Str → Addr} {e a b : Expr} {t t' ta tb : TE}
theorem PE.imp (h : PE X e t) (i : ∀ σ H Q, t' σ H Q → t σ H Q) : PE X e t' := ⟨fun pins s σ H Q I q => h.run pins s σ H Q I (i σ H Q q)⟩
theorem PT.imp {t t' : TT} (h : PT X e t) (i : ∀ σ H Q, t' σ H Q → t σ H Q) : PT X e t' := ⟨fun pins s σ H Q I q => h.run pins s σ H Q I (i σ H Q q)⟩
theorem PA.imp {es : List Expr} {t t' : TA} (h : PA X es t) (i : ∀ σ H Q, t' σ H Q → t σ H Q) : PA X es t' := ⟨fun pos pins s σ H Q I q => h.run pos pins s σ H Q I (i σ H Q q)⟩
theorem PS.imp {st : Stmt} {t t' : TS} (h : PS X st t) (i : ∀ D σ H, t' D σ H → t D σ H) : PS X st t' := ⟨fun pins s σ H D I q => h.run pins s σ H D I (i D σ H q)⟩
theorem PSs.imp {st : List Stmt} {t t' : TS} (h : PSs X st t) (i : ∀ D σ H, t' D σ H → t D σ H) : PSs X st t' := ⟨fun pins s σ H D I q => h.run pins s σ H D I (i D σ H q)⟩

/-! ### names and constants -/
def rd (i : Nat) (ρ : Rho) : Option Dat := match ρ[i]? with
  | some (some (.fro d)) => some d
  | _ => none
theorem RO.fro_inv {K : PySem.W.Frag} {F H : Hp} {v : V} {d : Dat} {A : List Addr} (h : RO K cm F H v (.fro d) A) : R K cm F v d := by
  cases h with
  | fro q => exact q
theorem Rel.rd {K : PySem.W.Frag} {F H : Hp} {σ : L2.St} {ρ : Rho} {As : Nat → List Addr} (r : Rel K cm F H σ ρ As) {i : Nat} {d : Dat} (h : rd i ρ = some d) : ∃ v, σ[i]? = some (some v) ∧ R K cm F v d := by
  unfold Pq.rd at h
  split at h
  · rename_i d' e
    cases h
    obtain ⟨v, h1, h2⟩ := r.at_ i _ e
    exact ⟨v, h1, h2.fro_inv⟩
  · cases h
/-- the name in the i-th place -/
theorem ev (i : Nat) {x : Str} {pos : Pos} (hN : X.N[i]? = some x := by rfl) (hv : Vis X.env.scope x := by first | exact Or.inl rfl | exact Or.inr (Or.inl rfl) | exact Or.inr (Or.inr rfl)) (hd : (x == ("__debug__" : Str)) = false := by decide)
    (hcd : (x == ("__classdict__" : Str)) = false := by decide) : PE X (.Name x pos) (ofE X.K cm (rd i)) := by
  refine PE.imp (pe_var hN hv hd hcd) fun σ H Q ⟨F, ρ, As, d, rel, hf, k⟩ => ?_
  obtain ⟨v, h1, h2⟩ := rel.rd hf
  exact ⟨v, h1, k v F H (Ext.refl rel.fh) h2⟩
def kD (d : Dat) : Rho → Option Dat := fun _ => some d
theorem e_c {v : V} {d : Dat} (h : PE X e (tC v)) (r : ∀ F, R X.K cm F v d) : PE X e (ofE X.K cm (kD d)) := PE.imp h fun σ H Q ⟨F, ρ, As, d', rel, hf, k⟩ => by
  cases hf
  exact k v F H (Ext.refl rel.fh) (r F)
theorem e_int {i : Int} {j pos} : PE X (.Constant (.int i) j pos) (ofE X.K cm (kD (.int i))) := e_c pe_int fun _ => .int i
theorem e_bl {k : Bool} {j pos} : PE X (.Constant (.bool k) j pos) (ofE X.K cm (kD (.bl k))) := e_c pe_bl fun _ => .bl k
theorem e_non {j pos} : PE X (.Constant .none j pos) (ofE X.K cm (kD .non)) := e_c pe_non fun _ => .non
theorem e_str {x : Str} {j pos} : PE X (.Constant (.str x) j pos) (ofE X.K cm (kD (.str x))) := e_c pe_str fun _ => .str x

/-! ### operators -/
def bin (g : Dat → Dat → Option Dat) (fa fb : Rho → Option Dat) : Rho → Option Dat := fun ρ => (fa ρ).bind fun x => (fb ρ).bind fun y => g x y
def un (g : Dat → Option Dat) (fa : Rho → Option Dat) : Rho → Option Dat := fun ρ => (fa ρ).bind g
def OpD (X : Cx) (cm : Str → Addr) (r : R2) (g : Dat → Dat → Option Dat) : Prop := ∀ F H x y a b d (Q : VK), Same F H → R X.K cm F x a → R X.K cm F y b → g a b = some d → (∀ v F' H', Ext F H F' H' → R X.K cm F' v d → Q v H') → r x y H Q
def UnD (X : Cx) (cm : Str → Addr) (r : V → Hp → VK → Prop) (g : Dat → Option Dat) : Prop := ∀ F H x a d (Q : VK), Same F H → R X.K cm F x a → g a = some d → (∀ v F' H', Ext F H F' H' → R X.K cm F' v d → Q v H') → r x H Q
theorem bind_some {α β : Type} {x : Option α} {f : α → Option β} {y : β} (h : x.bind f = some y) : ∃ z, x = some z ∧ f z = some y := by
  cases x with
  | none => cases h
  | some z => exact ⟨z, rfl, h⟩
theorem bin_of {r : R2} {g : Dat → Dat → Option Dat} {fa fb : Rho → Option Dat} (hd : OpD X cm r g) : ∀ σ H Q, ofE X.K cm (bin g fa fb) σ H Q → tOp r (ofE X.K cm fa) (ofE X.K cm fb) σ H Q := fun σ H Q ⟨F, ρ, As, d, rel, hf, k⟩ => by
  obtain ⟨x, e1, hf⟩ := bind_some hf
  obtain ⟨y, e2, hf⟩ := bind_some hf
  exact ⟨F, ρ, As, x, rel, e1, fun v F1 H1 x1 r1 => ⟨F1, ρ, As, y, rel.ext x1, e2, fun u F2 H2 x2 r2 => hd F2 H2 v u x y d Q x2.fh (r1.mono x2.f) r2 hf fun z F3 H3 x3 r3 => k z F3 H3 (x1.trans (x2.trans x3)) r3⟩⟩
theorem e_bin {op : Operator} {r : R2} {g : Dat → Dat → Option Dat} {fa fb : Rho → Option Dat} {pos : Pos} (ho : OpR X (binaryOp op) r) (hd : OpD X cm r g) (ha : PE X a (ofE X.K cm fa)) (hb : PE X b (ofE X.K cm fb)) : PE X (.BinOp a op b pos) (ofE X.K cm (bin g fa fb)) :=
  PE.imp (pe_op ho ha hb) (bin_of hd)
theorem e_cmp {op : CmpOp} {r : R2} {g : Dat → Dat → Option Dat} {fa fb : Rho → Option Dat} {pos : Pos} (ho : OpR X (compareOp op) r) (hd : OpD X cm r g) (ha : PE X a (ofE X.K cm fa)) (hb : PE X b (ofE X.K cm fb)) (hm : behindInMarks op b = false) : PE X (.Compare a [op] [b] pos) (ofE X.K cm (bin g fa fb)) :=
  PE.imp (pe_cmpR ho ha hb hm) (bin_of hd)
/-- an expression whose value is a truth value -/
def tst (f : Rho → Option Dat) : Rho → Option Bool := fun ρ => (f ρ).bind fun | .bl k => some k | _ => none
theorem tst_some {f : Rho → Option Dat} {ρ : Rho} {k : Bool} (h : tst f ρ = some k) : f ρ = some (.bl k) := by
  obtain ⟨d, e, h⟩ := bind_some h
  cases d with
  | bl j =>
    have : j = k := Option.some.inj h
    rw [e, this]
  | _ => cases h
theorem R.bl_inv {K : PySem.W.Frag} {F : Hp} {v : V} {k : Bool} (h : R K cm F v (.bl k)) : v = .bl k := by cases h; rfl
theorem R.int_inv {K : PySem.W.Frag} {F : Hp} {v : V} {k : Int} (h : R K cm F v (.int k)) : v = .int k := by cases h; rfl
theorem R.str_inv {K : PySem.W.Frag} {F : Hp} {v : V} {k : Str} (h : R K cm F v (.str k)) : v = .str k := by cases h; rfl
theorem R.non_inv {K : PySem.W.Frag} {F : Hp} {v : V} (h : R K cm F v .non) : v = .non := by cases h; rfl
theorem tst_of {f : Rho → Option Dat} : ∀ σ H (Q : Bool → Hp → Prop), ofT X.K cm (tst f) σ H Q → ofE X.K cm f σ H fun x H' => ∃ k, x = .bl k ∧ Q k H' := fun σ H Q ⟨F, ρ, As, k, rel, hf, q⟩ =>
  ⟨F, ρ, As, .bl k, rel, tst_some hf, fun v F' H' x r => ⟨k, r.bl_inv, q F' H' x⟩⟩
theorem t_val {f : Rho → Option Dat} (h : PE X e (ofE X.K cm f)) (he : ∀ whole, isTrue e X.env whole = (do let v ← whole; standAt e.pos; holding [v] (truthy v)) := by intro _; rfl) : PT X e (ofT X.K cm (tst f)) :=
  PT.imp (pt_val h he) fun σ H Q q => tst_of σ H Q q
theorem t_cmp {op : CmpOp} {r : R2} {g : Dat → Dat → Option Dat} {fa fb : Rho → Option Dat} {pos : Pos} (ho : OpR X (compareOp op) r) (hd : OpD X cm r g) (ha : PE X a (ofE X.K cm fa)) (hb : PE X b (ofE X.K cm fb)) (hm : behindInMarks op b = false) : PT X (.Compare a [op] [b] pos) (ofT X.K cm (tst (bin g fa fb))) :=
  PT.imp (pt_cmpR ho ha hb hm) fun σ H Q q => by
    obtain ⟨F, ρ, As, d, rel, hf, k⟩ := tst_of σ H Q q
    exact bin_of hd σ H _ ⟨F, ρ, As, d, rel, hf, k⟩
/-! ### and, or, not -/
def and2 (f g : Rho → Option Bool) : Rho → Option Bool := fun ρ => (f ρ).bind fun k => if k = true then g ρ else some false
def or2 (f g : Rho → Option Bool) : Rho → Option Bool := fun ρ => (f ρ).bind fun k => if k = true then some true else g ρ
def not1 (f : Rho → Option Bool) : Rho → Option Bool := fun ρ => (f ρ).map fun k => !k
variable {f g : Rho → Option Bool} {rest : List Expr} {pos : Pos}
theorem PW.imp {t t' : TT} (h : PW X e t) (i : ∀ σ H Q, t' σ H Q → t σ H Q) : PW X e t' := ⟨fun wh pins s σ H Q I q => h.run wh pins s σ H Q I (i σ H Q q)⟩
theorem w_and1 (h : PT X a (ofT X.K cm f)) : PW X (.BoolOp .And [a] pos) (ofT X.K cm f) := pw_and1 h
theorem w_or1 (h : PT X a (ofT X.K cm f)) : PW X (.BoolOp .Or [a] pos) (ofT X.K cm f) := pw_or1 h
theorem w_and (ha : PT X a (ofT X.K cm f)) (hb : PW X (.BoolOp .And (b :: rest) pos) (ofT X.K cm g)) : PW X (.BoolOp .And (a :: b :: rest) pos) (ofT X.K cm (and2 f g)) := PW.imp (pw_and ha hb) fun σ H Q ⟨F, ρ, As, k, rel, hf, q⟩ => by
  obtain ⟨j, e1, hf⟩ := bind_some hf
  refine ⟨F, ρ, As, j, rel, e1, fun F1 H1 x1 => ?_⟩
  cases j with
  | true =>
    rw [if_pos rfl] at hf ⊢
    exact ⟨F1, ρ, As, k, rel.ext x1, hf, fun F2 H2 x2 => q F2 H2 (x1.trans x2)⟩
  | false =>
    rw [if_neg Bool.false_ne_true] at hf ⊢
    cases hf
    exact q F1 H1 x1
theorem w_or (ha : PT X a (ofT X.K cm f)) (hb : PW X (.BoolOp .Or (b :: rest) pos) (ofT X.K cm g)) : PW X (.BoolOp .Or (a :: b :: rest) pos) (ofT X.K cm (or2 f g)) := PW.imp (pw_or ha hb) fun σ H Q ⟨F, ρ, As, k, rel, hf, q⟩ => by
  obtain ⟨j, e1, hf⟩ := bind_some hf
  refine ⟨F, ρ, As, j, rel, e1, fun F1 H1 x1 => ?_⟩
  cases j with
  | false =>
    rw [if_neg Bool.false_ne_true] at hf ⊢
    exact ⟨F1, ρ, As, k, rel.ext x1, hf, fun F2 H2 x2 => q F2 H2 (x1.trans x2)⟩
  | true =>
    rw [if_pos rfl] at hf ⊢
    cases hf
    exact q F1 H1 x1
theorem t_not (ha : PT X a (ofT X.K cm f)) : PT X (.UnaryOp .Not a pos) (ofT X.K cm (not1 f)) := PT.imp (pt_not ha) fun σ H Q ⟨F, ρ, As, k, rel, hf, q⟩ => by
  unfold not1 at hf
  cases e1 : f ρ with
  | none => rw [e1] at hf; cases hf
  | some j =>
    rw [e1] at hf
    cases hf
    exact ⟨F, ρ, As, j, rel, e1, q⟩
/-- .. as values -/
def asV (f : Rho → Option Bool) : Rho → Option Dat := fun ρ => (f ρ).map Dat.bl
def andV (fa fb : Rho → Option Dat) : Rho → Option Dat := fun ρ => (fa ρ).bind fun
  | .bl true => fb ρ
  | .bl false => some (.bl false)
  | _ => none
def orV (fa fb : Rho → Option Dat) : Rho → Option Dat := fun ρ => (fa ρ).bind fun
  | .bl true => some (.bl true)
  | .bl false => fb ρ
  | _ => none
def notV (fa : Rho → Option Dat) : Rho → Option Dat := fun ρ => (fa ρ).bind fun
  | .bl k => some (.bl (!k))
  | _ => none
variable {fa fb : Rho → Option Dat}
theorem v_one {op} (h : PE X a (ofE X.K cm fa)) : PE X (.BoolOp op [a] pos) (ofE X.K cm fa) := pe_one h
theorem v_and (ha : PE X a (ofE X.K cm fa)) (hb : PE X (.BoolOp .And (b :: rest) pos) (ofE X.K cm fb)) : PE X (.BoolOp .And (a :: b :: rest) pos) (ofE X.K cm (andV fa fb)) := PE.imp (pe_and ha hb) fun σ H Q ⟨F, ρ, As, d, rel, hf, q⟩ => by
  obtain ⟨x, e1, hf⟩ := bind_some hf
  refine ⟨F, ρ, As, x, rel, e1, fun v F1 H1 x1 r1 => ?_⟩
  cases x with
  | bl k =>
    refine ⟨k, r1.bl_inv, ?_⟩
    cases k with
    | true =>
      rw [if_pos rfl]
      exact ⟨F1, ρ, As, d, rel.ext x1, hf, fun u F2 H2 x2 r2 => q u F2 H2 (x1.trans x2) r2⟩
    | false =>
      rw [if_neg Bool.false_ne_true]
      cases hf
      exact q _ F1 H1 x1 (.bl false)
  | _ => cases hf
theorem v_or (ha : PE X a (ofE X.K cm fa)) (hb : PE X (.BoolOp .Or (b :: rest) pos) (ofE X.K cm fb)) : PE X (.BoolOp .Or (a :: b :: rest) pos) (ofE X.K cm (orV fa fb)) := PE.imp (pe_or ha hb) fun σ H Q ⟨F, ρ, As, d, rel, hf, q⟩ => by
  obtain ⟨x, e1, hf⟩ := bind_some hf
  refine ⟨F, ρ, As, x, rel, e1, fun v F1 H1 x1 r1 => ?_⟩
  cases x with
  | bl k =>
    refine ⟨k, r1.bl_inv, ?_⟩
    cases k with
    | false =>
      rw [if_neg Bool.false_ne_true]
      exact ⟨F1, ρ, As, d, rel.ext x1, hf, fun u F2 H2 x2 r2 => q u F2 H2 (x1.trans x2) r2⟩
    | true =>
      rw [if_pos rfl]
      cases hf
      exact q _ F1 H1 x1 (.bl true)
  | _ => cases hf
theorem v_not (ha : PE X a (ofE X.K cm fa)) : PE X (.UnaryOp .Not a pos) (ofE X.K cm (notV fa)) := PE.imp (pe_not ha) fun σ H Q ⟨F, ρ, As, d, rel, hf, q⟩ => by
  obtain ⟨x, e1, hf⟩ := bind_some hf
  refine ⟨F, ρ, As, x, rel, e1, fun v F1 H1 x1 r1 => ?_⟩
  cases x with
  | bl k =>
    cases hf
    exact ⟨k, r1.bl_inv, q _ F1 H1 x1 (.bl _)⟩
  | _ => cases hf
end
end Pq

namespace Pq
open PySem PySem.Spec PyProof.Rows L2

/-! ### equal data -/
mutual
def dp : Dat → Nat
  | .tup xs => dps xs + 1
  | .lst xs => dps xs + 1
  | .dct _ xs => dps xs + 1
  | .obj _ _ xs => dps xs + 1
  | .scr xs => dps xs + 1
  | .non => 0 | .bl _ => 0 | .int _ => 0 | .str _ => 0
def dps : List Dat → Nat
  | [] => 0
  | x :: xs => max (dp x) (dps xs)
end
def look : List Key → List Dat → Key → Option Dat
  | k :: ks, x :: xs, j => if k = j then some x else look ks xs j
  | _, _, _ => none
mutual
def eqb : Dat → Dat → Bool
  | .non, .non => true
  | .bl a, .bl b => a == b
  | .bl a, .int j => (if a then 1 else 0) == j
  | .int i, .bl b => i == (if b then 1 else 0)
  | .int i, .int j => i == j
  | .str x, .str y => x == y
  | .lst xs, .lst ys => eqbs xs ys
  | .tup xs, .tup ys => eqbs xs ys
  | _, _ => false
def eqbs : List Dat → List Dat → Bool
  | [], [] => true
  | x :: xs, y :: ys => eqb x y && eqbs xs ys
  | _, _ => false
end
/-! what can be compared here -/
mutual
def cpt : Dat → Dat → Bool
  | .lst xs, .lst ys => cpts xs ys
  | .tup xs, .tup ys => cpts xs ys
  | .lst _, .tup _ => true
  | .tup _, .lst _ => true
  | .dct _ _, _ => false
  | .obj _ _ _, _ => false
  | .scr _, _ => false
  | _, .dct _ _ => false
  | _, .obj _ _ _ => false
  | _, .scr _ => false
  | _, _ => true
def cpts : List Dat → List Dat → Bool
  | x :: xs, y :: ys => cpt x y && cpts xs ys
  | _, _ => true
end
theorem dps_le {x : Dat} : ∀ {xs : List Dat}, x ∈ xs → dp x ≤ dps xs
  | _ :: _, .head _ => by rw [dps]; exact Nat.le_max_left _ _
  | _ :: _, .tail _ h => by rw [dps]; exact Nat.le_trans (dps_le h) (Nat.le_max_right _ _)
theorem cpts_get : ∀ {xs ys : List Dat} {i : Nat} {x y : Dat}, cpts xs ys = true → xs[i]? = some x → ys[i]? = some y → cpt x y = true
  | x :: xs, y :: ys, 0, _, _, h, e1, e2 => by
    simp at e1 e2
    subst e1 e2
    rw [cpts] at h
    exact (Bool.and_eq_true_iff.mp h).1
  | x :: xs, y :: ys, i + 1, _, _, h, e1, e2 => by
    rw [cpts] at h
    exact cpts_get (i := i) (Bool.and_eq_true_iff.mp h).2 (by simpa using e1) (by simpa using e2)
  | [], _, _, _, _, _, e1, _ => by simp at e1
  | _ :: _, [], _, _, _, _, _, e2 => by simp at e2
def pairE (xs ys : List Dat) (i : Nat) : Bool := match xs[i]?, ys[i]? with
  | some x, some y => eqb x y
  | _, _ => true
theorem pairE_succ (x y : Dat) (xs ys : List Dat) (i : Nat) : pairE (x :: xs) (y :: ys) (i + 1) = pairE xs ys i := by simp [pairE]
theorem eqbs_all : ∀ xs ys : List Dat, ((List.range (min xs.length ys.length)).all (pairE xs ys) && xs.length == ys.length) = eqbs xs ys
  | [], [] => by simp [eqbs]
  | [], _ :: _ => by simp [eqbs]
  | _ :: _, [] => by simp [eqbs]
  | x :: xs, y :: ys => by
    rw [eqbs, ← eqbs_all xs ys, List.length_cons, List.length_cons, Nat.succ_min_succ, List.range_succ_eq_map, List.all_cons, List.all_map]
    have h0 : pairE (x :: xs) (y :: ys) 0 = eqb x y := by simp [pairE]
    have h1 : (pairE (x :: xs) (y :: ys)) ∘ Nat.succ = pairE xs ys := by
      funext i
      exact pairE_succ x y xs ys i
    have h2 : (xs.length + 1 == ys.length + 1) = (xs.length == ys.length) := by
      rw [Bool.eq_iff_iff]
      simp
    rw [h0, h1, h2, Bool.and_assoc]
theorem eqbs_same {xs ys : List Dat} (h : xs.length = ys.length) : (List.range xs.length).all (pairE xs ys) = eqbs xs ys := by
  rw [← eqbs_all xs ys, ← h, Nat.min_self, beq_self_eq_true, Bool.and_true]
theorem eqbs_other {xs ys : List Dat} (h : xs.length ≠ ys.length) : eqbs xs ys = false := by
  rw [← eqbs_all xs ys, beq_eq_false_iff_ne.mpr h, Bool.and_false]

section
variable {X : Cx} {cm : Str → Addr} {pins : List (Addr × Obj)} {σ : L2.St} {F H : Hp} {s : Shared}
theorem rd_up {a : Addr} {u : HO} (e : Same F H) (h : Rd F a u) : Rd H a u := same_rd e h
theorem R.at_list (I : Inv X pins σ H s) (e : Same F H) {a : Addr} {vs : List V} (h : Rd F a (.lst vs)) : ∃ its : List Value, Vals vs its ∧ s.heap.IsList a its.toArray := by
  obtain ⟨its, r, p, _⟩ := I.list (.inl (rd_up e h))
  exact ⟨its, r, p.isList⟩
theorem R.at_tup (I : Inv X pins σ H s) (e : Same F H) {a : Addr} {vs : List V} (h : SqT X.K F a vs) : ∃ its : List Value, Vals vs its ∧ s.heap.IsTuple a its.toArray := by
  obtain ⟨its, r, p, _⟩ := I.tuple (same_sqT e h)
  exact ⟨its, r, p⟩

theorem R.clash (I : Inv X pins σ H s) (e : Same F H) {a : Addr} {vs ws : List V} (h : Rd F a (.lst vs)) (h' : SqT X.K F a ws) : False := by
  obtain ⟨its, r, p⟩ := R.at_list I e h
  obtain ⟨its', r', p'⟩ := R.at_tup I e h'
  exact SeqAt.ne_of_list_tuple p p' rfl
mutual
theorem eqb_same (I : Inv X pins σ H s) (e : Same F H) : ∀ {v : V} {d d' : Dat}, R X.K cm F v d → R X.K cm F v d' → cpt d d' = true → eqb d d' = true
  | _, _, _, .non, .non, _ => by simp [eqb]
  | _, _, _, .bl b, .bl _, _ => by simp [eqb]
  | _, _, _, .int i, .int _, _ => by simp [eqb]
  | _, _, _, .str x, .str _, _ => by simp [eqb]
  | _, _, _, .lst h r, .lst h' r', c => by
    rw [cpt] at c
    rw [eqb]
    have z := I.list_inj (.inl (rd_up e h)) (.inl (rd_up e h'))
    subst z
    exact eqbs_sameL I e r r' c
  | _, _, _, .tup h r, .tup h' r', c => by
    rw [cpt] at c
    rw [eqb]
    have z := I.tuple_inj (same_sqT e h) (same_sqT e h')
    subst z
    exact eqbs_sameL I e r r' c
  | _, _, _, .lst h r, .tup h' r', c => (R.clash I e h h').elim
  | _, _, _, .tup h r, .lst h' r', c => (R.clash I e h' h).elim
  | _, _, _, .lst h r, .dct h' k r', c => by simp [cpt] at c
  | _, _, _, .lst h r, .obj h' k r', c => by simp [cpt] at c
  | _, _, _, .lst h r, .scr h' r', c => by simp [cpt] at c
  | _, _, _, .tup h r, .dct h' k r', c => by simp [cpt] at c
  | _, _, _, .tup h r, .obj h' k r', c => by simp [cpt] at c
  | _, _, _, .tup h r, .scr h' r', c => by simp [cpt] at c
  | _, _, _, .dct h k r, _, c => by simp [cpt] at c
  | _, _, _, .obj h k r, _, c => by simp [cpt] at c
  | _, _, _, .scr h r, _, c => by simp [cpt] at c
theorem eqbs_sameL (I : Inv X pins σ H s) (e : Same F H) : ∀ {vs : List V} {xs ys : List Dat}, Rs X.K cm F vs xs → Rs X.K cm F vs ys → cpts xs ys = true → eqbs xs ys = true
  | _, _, _, .nil, .nil, _ => by simp [eqbs]
  | _, _, _, .cons r t, .cons r' t', c => by
    rw [cpts, Bool.and_eq_true] at c
    rw [eqbs, eqb_same I e r r' c.1, eqbs_sameL I e t t' c.2]
    rfl
end

/-- the comparison of two values answers b wherever n levels more are free -/
def EA (s : Shared) (n : Nat) (u u' : Value) (b : Bool) : Prop := ∀ A : Around, A.units + n < cLine → PySem.SeqAt.EqAt A s u u' b
theorem EA.same {s : Shared} {n : Nat} {u : Value} : EA s n u u true := fun _ _ => .same u
theorem EA.lists {s : Shared} {n : Nat} {a b : Addr} {vs ws : Array Value} {e : Nat → Bool} (ne : a ≠ b) (h1 : s.heap.IsList a vs) (h2 : s.heap.IsList b ws) (hs : vs.size = ws.size) (h : ∀ j (l1 : j < vs.size) (l2 : j < ws.size), EA s n vs[j] ws[j] (e j)) : EA s (n + 1) (.ref a) (.ref b) ((List.range vs.size).all e) :=
  fun A hu => .of_refs ne (.lists h1 h2 hs (by omega) fun j l1 l2 => h j l1 l2 A.in1 (by show A.units + 1 + n < cLine; omega))
theorem EA.listsLen {s : Shared} {n : Nat} {a b : Addr} {vs ws : Array Value} (ne : a ≠ b) (h1 : s.heap.IsList a vs) (h2 : s.heap.IsList b ws) (hs : (vs.size != ws.size) = true) : EA s n (.ref a) (.ref b) false :=
  fun A hu => .of_refs ne (.lists_lengths h1 h2 hs (by omega))
theorem EA.tuples {s : Shared} {n : Nat} {a b : Addr} {vs ws : Array Value} {e : Nat → Bool} (ne : a ≠ b) (h1 : s.heap.IsTuple a vs) (h2 : s.heap.IsTuple b ws) (h : ∀ j (l1 : j < vs.size) (l2 : j < ws.size), EA s n vs[j] ws[j] (e j)) : EA s (n + 1) (.ref a) (.ref b) ((List.range (min vs.size ws.size)).all e && vs.size == ws.size) :=
  fun A hu => .of_refs ne (.tuples h1 h2 (by omega) fun j l1 l2 => h j l1 l2 A.in1 (by show A.units + 1 + n < cLine; omega))
def isSc : Dat → Bool
  | .non => true | .bl _ => true | .int _ => true | .str _ => true
  | _ => false
/-- equality of what is no row -/
theorem eqb_sc (I : Inv X pins σ H s) (e : Same F H) (n : Nat) {d d' : Dat} {v v' : V} {u u' : Value} (hn : isSc d = true) (c : cpt d d' = true) (h : R X.K cm F v d) (h' : R X.K cm F v' d') (r : RelV v u) (r' : RelV v' u') : EA s (n + 1) u u' (eqb d d') := by
  cases h with
  | non =>
    cases r
    cases h' with
    | non => cases r'; rw [eqb]; exact .same
    | bl b => cases r'; rw [show eqb .non (.bl b) = false by simp [eqb]]; exact fun A _ => .none_bool b
    | int i => obtain ⟨t, rfl⟩ := r'; rw [show eqb .non (.int i) = false by simp [eqb]]; exact fun A _ => .none_int i t
    | str i => obtain ⟨t, rfl⟩ := r'; rw [show eqb .non (.str i) = false by simp [eqb]]; exact fun A _ => .none_str i t
    | lst q k => cases r'; obtain ⟨_, _, p⟩ := R.at_list I e q; rw [eqb] <;> (try simp); exact fun A hu => .none_list p (by omega)
    | tup q k => cases r'; obtain ⟨_, _, p⟩ := R.at_tup I e q; rw [eqb] <;> (try simp); exact fun A hu => .none_tuple p (by omega)
    | dct q k z => simp [cpt] at c
    | obj q k z => simp [cpt] at c
    | scr q k => simp [cpt] at c
  | bl b =>
    cases r
    cases h' with
    | non => cases r'; rw [show eqb (.bl b) .non = false by simp [eqb]]; exact fun A _ => .bool_none b
    | bl b' => cases r'; rw [eqb]; exact fun A _ => .bool_bool b b'
    | int i => obtain ⟨t, rfl⟩ := r'; rw [eqb]; exact fun A _ => .bool_int b i t
    | str i => obtain ⟨t, rfl⟩ := r'; rw [show eqb (.bl b) (.str i) = false by simp [eqb]]; exact fun A _ => .bool_str b i t
    | lst q k => cases r'; obtain ⟨_, _, p⟩ := R.at_list I e q; rw [eqb] <;> (try simp); exact fun A hu => .bool_list b p (by omega)
    | tup q k => cases r'; obtain ⟨_, _, p⟩ := R.at_tup I e q; rw [eqb] <;> (try simp); exact fun A hu => .bool_tuple b p (by omega)
    | dct q k z => simp [cpt] at c
    | obj q k z => simp [cpt] at c
    | scr q k => simp [cpt] at c
  | int b =>
    obtain ⟨t0, rfl⟩ := r
    cases h' with
    | non => cases r'; rw [show eqb (.int b) .non = false by simp [eqb]]; exact fun A _ => .int_none b t0
    | bl b' => cases r'; rw [eqb]; exact fun A _ => .int_bool b t0 b'
    | int i => obtain ⟨t, rfl⟩ := r'; rw [eqb]; exact fun A _ => .int_int b t0 i t
    | str i => obtain ⟨t, rfl⟩ := r'; rw [show eqb (.int b) (.str i) = false by simp [eqb]]; exact fun A _ => .int_str b t0 i t
    | lst q k => cases r'; obtain ⟨_, _, p⟩ := R.at_list I e q; rw [eqb] <;> (try simp); exact fun A hu => .int_list b t0 p (by omega)
    | tup q k => cases r'; obtain ⟨_, _, p⟩ := R.at_tup I e q; rw [eqb] <;> (try simp); exact fun A hu => .int_tuple b t0 p (by omega)
    | dct q k z => simp [cpt] at c
    | obj q k z => simp [cpt] at c
    | scr q k => simp [cpt] at c
  | str b =>
    obtain ⟨t0, rfl⟩ := r
    cases h' with
    | non => cases r'; rw [show eqb (.str b) .non = false by simp [eqb]]; exact fun A _ => .str_none b t0
    | bl b' => cases r'; rw [show eqb (.str b) (.bl b') = false by simp [eqb]]; exact fun A _ => .str_bool b t0 b'
    | int i => obtain ⟨t, rfl⟩ := r'; rw [show eqb (.str b) (.int i) = false by simp [eqb]]; exact fun A _ => .str_int b t0 i t
    | str i => obtain ⟨t, rfl⟩ := r'; rw [eqb]; exact fun A _ => .str_str b t0 i t
    | lst q k => cases r'; obtain ⟨_, _, p⟩ := R.at_list I e q; rw [eqb] <;> (try simp); exact fun A hu => .str_list b t0 p (by omega)
    | tup q k => cases r'; obtain ⟨_, _, p⟩ := R.at_tup I e q; rw [eqb] <;> (try simp); exact fun A hu => .str_tuple b t0 p (by omega)
    | dct q k z => simp [cpt] at c
    | obj q k z => simp [cpt] at c
    | scr q k => simp [cpt] at c
  | tup q k => cases hn
  | lst q k => cases hn
  | dct q k z => simp [cpt] at c
  | obj q k z => simp [cpt] at c
  | scr q k => simp [cpt] at c

theorem Rs.vals_at {vs : List V} {xs : List Dat} {its : List Value} (h : Rs X.K cm F vs xs) (r : Vals vs its) {j : Nat} (hj : j < its.length) : ∃ v x, xs[j]? = some x ∧ R X.K cm F v x ∧ RelV v its[j] := by
  have hv : j < vs.length := by rw [r.length]; exact hj
  obtain ⟨x, h1, h2⟩ := h.getV (List.getElem?_eq_getElem hv)
  obtain ⟨u, h3, h4⟩ := r.get (List.getElem?_eq_getElem hv)
  rw [List.getElem?_eq_getElem hj] at h3
  cases h3
  exact ⟨_, x, h1, h2, h4⟩
theorem cpt_mono {n : Nat} {xs : List Dat} {i : Nat} {x : Dat} (h : dps xs ≤ n) (e : xs[i]? = some x) : dp x ≤ n := Nat.le_trans (dps_le (List.mem_of_getElem? e)) h
theorem eqb_tree (I : Inv X pins σ H s) (e : Same F H) : ∀ (n : Nat) {d d' : Dat} {v v' : V} {u u' : Value}, dp d ≤ n → cpt d d' = true → R X.K cm F v d → R X.K cm F v' d' → RelV v u → RelV v' u' → EA s (n + 1) u u' (eqb d d') := by
  intro n
  induction n with
  | zero =>
    intro d d' v v' u u' hn c h h' r r'
    refine eqb_sc I e 0 ?_ c h h' r r'
    cases d with
    | tup q => rw [dp] at hn; omega
    | lst q => rw [dp] at hn; omega
    | dct q k => simp [cpt] at c
    | obj q k z => simp [cpt] at c
    | scr q => simp [cpt] at c
    | _ => rfl
  | succ n ih =>
    intro d d' v v' u u' hn c h h' r r'
    by_cases hs : isSc d = true
    · exact eqb_sc I e (n + 1) hs c h h' r r'
    have step : ∀ {vs ws : List V} {xs ys : List Dat} {its its' : List Value}, dps xs ≤ n → cpts xs ys = true → Rs X.K cm F vs xs → Rs X.K cm F ws ys → Vals vs its → Vals ws its' → ∀ j (h1 : j < its.toArray.size) (h2 : j < its'.toArray.size), EA s (n + 1) its.toArray[j] its'.toArray[j] (pairE xs ys j) := fun {vs ws xs ys its its'} hd hc r1 r2 q1 q2 j h1 h2 => by
      obtain ⟨v1, x1, e1, p1, t1⟩ := r1.vals_at q1 (j := j) (by simpa using h1)
      obtain ⟨v2, x2, e2, p2, t2⟩ := r2.vals_at q2 (j := j) (by simpa using h2)
      have z := ih (cpt_mono hd e1) (cpts_get hc e1 e2) p1 p2 t1 t2
      unfold pairE
      rw [e1, e2]
      simpa using z
    cases h with
    | non => exact (hs rfl).elim
    | bl b => exact (hs rfl).elim
    | int b => exact (hs rfl).elim
    | str b => exact (hs rfl).elim
    | dct q k z => simp [cpt] at c
    | obj q k z => simp [cpt] at c
    | scr q k => simp [cpt] at c
    | @lst a vs xs q k =>
      cases r
      rw [dp] at hn
      obtain ⟨its, q1, p1⟩ := R.at_list I e q
      cases h' with
      | non => cases r'; rw [show eqb (.lst xs) .non = false by simp [eqb]]; exact fun A hu => .list_none p1 (by omega)
      | bl b => cases r'; rw [show eqb (.lst xs) (.bl b) = false by simp [eqb]]; exact fun A hu => .list_bool b p1 (by omega)
      | int b => obtain ⟨t, rfl⟩ := r'; rw [show eqb (.lst xs) (.int b) = false by simp [eqb]]; exact fun A hu => .list_int b t p1 (by omega)
      | str b => obtain ⟨t, rfl⟩ := r'; rw [show eqb (.lst xs) (.str b) = false by simp [eqb]]; exact fun A hu => .list_str b t p1 (by omega)
      | dct q' k' z => simp [cpt] at c
      | obj q' k' z => simp [cpt] at c
      | scr q k => simp [cpt] at c
      | @tup b ws ys q' k' =>
        cases r'
        obtain ⟨its', q2, p2⟩ := R.at_tup I e q'
        rw [show eqb (.lst xs) (.tup ys) = false by simp [eqb]]
        exact fun A hu => .list_tuple p1 p2 (by omega)
      | @lst b ws ys q' k' =>
        cases r'
        obtain ⟨its', q2, p2⟩ := R.at_list I e q'
        by_cases hab : a = b
        · subst hab
          rw [eqb_same I e (.lst q k) (.lst q' k') c]
          exact .same
        · rw [cpt] at c
          rw [eqb]
          by_cases hl : xs.length = ys.length
          · have hsz : its.toArray.size = its'.toArray.size := by
              rw [List.size_toArray, List.size_toArray, ← q1.length, ← q2.length, k.length, k'.length]; exact hl
            rw [← eqbs_same hl]
            have z := EA.lists hab p1 p2 hsz (step (by omega) c k k' q1 q2)
            rw [List.size_toArray, ← q1.length, k.length] at z
            exact z
          · rw [eqbs_other hl]
            refine .listsLen hab p1 p2 ?_
            rw [List.size_toArray, List.size_toArray, ← q1.length, ← q2.length, k.length, k'.length]
            simpa using hl
    | @tup a vs xs q k =>
      cases r
      rw [dp] at hn
      obtain ⟨its, q1, p1⟩ := R.at_tup I e q
      cases h' with
      | non => cases r'; rw [show eqb (.tup xs) .non = false by simp [eqb]]; exact fun A hu => .tuple_none p1 (by omega)
      | bl b => cases r'; rw [show eqb (.tup xs) (.bl b) = false by simp [eqb]]; exact fun A hu => .tuple_bool b p1 (by omega)
      | int b => obtain ⟨t, rfl⟩ := r'; rw [show eqb (.tup xs) (.int b) = false by simp [eqb]]; exact fun A hu => .tuple_int b t p1 (by omega)
      | str b => obtain ⟨t, rfl⟩ := r'; rw [show eqb (.tup xs) (.str b) = false by simp [eqb]]; exact fun A hu => .tuple_str b t p1 (by omega)
      | dct q' k' z => simp [cpt] at c
      | obj q' k' z => simp [cpt] at c
      | scr q k => simp [cpt] at c
      | @lst b ws ys q' k' =>
        cases r'
        obtain ⟨its', q2, p2⟩ := R.at_list I e q'
        rw [show eqb (.tup xs) (.lst ys) = false by simp [eqb]]
        exact fun A hu => .tuple_list p1 p2 (by omega)
      | @tup b ws ys q' k' =>
        cases r'
        obtain ⟨its', q2, p2⟩ := R.at_tup I e q'
        by_cases hab : a = b
        · subst hab
          rw [eqb_same I e (.tup q k) (.tup q' k') c]
          exact .same
        · rw [cpt] at c
          rw [eqb, ← eqbs_all xs ys]
          have z := EA.tuples hab p1 p2 (step (by omega) c k k' q1 q2)
          rw [List.size_toArray, List.size_toArray, ← q1.length, ← q2.length, k.length, k'.length] at z
          exact z
end
end Pq

namespace Pq
open PySem PySem.Spec PyProof.Rows L2
open PySem.SeqAt (RcAt RcNeAt EqAt)
section
variable {X : Cx} {cm : Str → Addr} {pins : List (Addr × Obj)} {σ : L2.St} {F H : Hp} {s : Shared} {A : Around} {E Q : Value → Shared → Prop}
theorem items_in (I : Inv X pins σ H s) (e : Same F H) {n : Nat} (hu : A.units + (n + 1) < cLine) {vs ws : List V} {xs ys : List Dat} {its its' : List Value} (hd : dps xs ≤ n) (hc : cpts xs ys = true) (r1 : Rs X.K cm F vs xs) (r2 : Rs X.K cm F ws ys) (q1 : Vals vs its) (q2 : Vals ws its') :
    ∀ j (h1 : j < its.toArray.size) (h2 : j < its'.toArray.size), EqAt A s its.toArray[j] its'.toArray[j] (pairE xs ys j) := fun j h1 h2 => by
  obtain ⟨v1, x1, e1, p1, t1⟩ := r1.vals_at q1 (j := j) (by simpa using h1)
  obtain ⟨v2, x2, e2, p2, t2⟩ := r2.vals_at q2 (j := j) (by simpa using h2)
  have z := (eqb_tree I e n (cpt_mono hd e1) (cpts_get hc e1 e2) p1 p2 t1 t2) A hu
  unfold pairE
  rw [e1, e2]
  simpa using z
theorem sizes {vs ws : List V} {xs ys : List Dat} {its its' : List Value} (r1 : Rs X.K cm F vs xs) (r2 : Rs X.K cm F ws ys) (q1 : Vals vs its) (q2 : Vals ws its') : its.toArray.size = xs.length ∧ its'.toArray.size = ys.length := by
  rw [List.size_toArray, List.size_toArray, ← q1.length, ← q2.length]
  exact ⟨r1.length, r2.length⟩
theorem eq_lists (I : Inv X pins σ H s) (e : Same F H) (hu : A.units + 60 < cLine) {a b : Addr} {vs ws : List V} {xs ys : List Dat} {its its' : List Value} (hd : dps xs ≤ 50) (hc : cpts xs ys = true) (r1 : Rs X.K cm F vs xs) (r2 : Rs X.K cm F ws ys) (q1 : Vals vs its) (q2 : Vals ws its')
    (p1 : s.heap.IsList a its.toArray) (p2 : s.heap.IsList b its'.toArray) (q : Q (.bool (eqbs xs ys)) s) : wpAny (model X.prog X.w) A (richCompare .Eq (.ref a) (.ref b)) Q E s := by
  obtain ⟨z1, z2⟩ := sizes r1 r2 q1 q2
  by_cases hl : xs.length = ys.length
  · have k := RcAt.lists p1 p2 (by rw [z1, z2]; exact hl) (by omega) (items_in I e (A := A.in1) (n := 50) (by show A.units + 1 + _ < cLine; omega) hd hc r1 r2 q1 q2)
    rw [z1, eqbs_same hl] at k
    exact k _ _ _ _ q
  · rw [eqbs_other hl] at q
    exact RcAt.lists_lengths p1 p2 (by rw [z1, z2]; simpa using hl) (by omega) _ _ _ _ q
theorem eq_tuples (I : Inv X pins σ H s) (e : Same F H) (hu : A.units + 60 < cLine) {a b : Addr} {vs ws : List V} {xs ys : List Dat} {its its' : List Value} (hd : dps xs ≤ 50) (hc : cpts xs ys = true) (r1 : Rs X.K cm F vs xs) (r2 : Rs X.K cm F ws ys) (q1 : Vals vs its) (q2 : Vals ws its')
    (p1 : s.heap.IsTuple a its.toArray) (p2 : s.heap.IsTuple b its'.toArray) (q : Q (.bool (eqbs xs ys)) s) : wpAny (model X.prog X.w) A (richCompare .Eq (.ref a) (.ref b)) Q E s := by
  obtain ⟨z1, z2⟩ := sizes r1 r2 q1 q2
  have k := RcAt.tuples p1 p2 (by omega) (items_in I e (A := A.in1) (n := 50) (by show A.units + 1 + _ < cLine; omega) hd hc r1 r2 q1 q2)
  rw [z1, z2, eqbs_all] at k
  exact k _ _ _ _ q
theorem ne_lists (I : Inv X pins σ H s) (e : Same F H) (hu : A.units + 60 < cLine) {a b : Addr} {vs ws : List V} {xs ys : List Dat} {its its' : List Value} (hd : dps xs ≤ 50) (hc : cpts xs ys = true) (r1 : Rs X.K cm F vs xs) (r2 : Rs X.K cm F ws ys) (q1 : Vals vs its) (q2 : Vals ws its')
    (p1 : s.heap.IsList a its.toArray) (p2 : s.heap.IsList b its'.toArray) (q : Q (.bool (!eqbs xs ys)) s) : wpAny (model X.prog X.w) A (richCompare .NotEq (.ref a) (.ref b)) Q E s := by
  obtain ⟨z1, z2⟩ := sizes r1 r2 q1 q2
  by_cases hl : xs.length = ys.length
  · have k := RcNeAt.lists p1 p2 (by rw [z1, z2]; exact hl) (by omega) (items_in I e (A := A.in1) (n := 50) (by show A.units + 1 + _ < cLine; omega) hd hc r1 r2 q1 q2)
    rw [z1, eqbs_same hl] at k
    exact k _ _ _ _ q
  · rw [eqbs_other hl] at q
    exact RcNeAt.lists_lengths p1 p2 (by rw [z1, z2]; simpa using hl) (by omega) _ _ _ _ q
theorem ne_tuples (I : Inv X pins σ H s) (e : Same F H) (hu : A.units + 60 < cLine) {a b : Addr} {vs ws : List V} {xs ys : List Dat} {its its' : List Value} (hd : dps xs ≤ 50) (hc : cpts xs ys = true) (r1 : Rs X.K cm F vs xs) (r2 : Rs X.K cm F ws ys) (q1 : Vals vs its) (q2 : Vals ws its')
    (p1 : s.heap.IsTuple a its.toArray) (p2 : s.heap.IsTuple b its'.toArray) (q : Q (.bool (!eqbs xs ys)) s) : wpAny (model X.prog X.w) A (richCompare .NotEq (.ref a) (.ref b)) Q E s := by
  obtain ⟨z1, z2⟩ := sizes r1 r2 q1 q2
  have k := RcNeAt.tuples p1 p2 (by omega) (items_in I e (A := A.in1) (n := 50) (by show A.units + 1 + _ < cLine; omega) hd hc r1 r2 q1 q2)
  rw [z1, z2, eqbs_all] at k
  exact k _ _ _ _ q
theorem rc_eq (I : Inv X pins σ H s) (e : Same F H) (hu0 : A.units + 60 < cLine) {d d' : Dat} {v v' : V} {u u' : Value} (n : dp d ≤ 50) (c : cpt d d' = true) (h : R X.K cm F v d) (h' : R X.K cm F v' d') (r : RelV v u) (r' : RelV v' u') (q : Q (.bool (eqb d d')) s) : wpAny (model X.prog X.w) A (richCompare .Eq u u') Q E s := by
  have hu : A.units < cLine := by omega
  cases h with
  | non =>
    cases r
    cases h' with
    | non => cases r'; rw [eqb] at q; exact RcAt.none_none  _ _ _ _ q
    | bl y0 => cases r'; rw [show eqb .non (.bl y0) = false by simp [eqb]] at q; exact RcAt.none_bool y0 _ _ _ _ q
    | int y0 => obtain ⟨t1, rfl⟩ := r'; rw [show eqb .non (.int y0) = false by simp [eqb]] at q; exact RcAt.none_int y0 t1 _ _ _ _ q
    | str y0 => obtain ⟨t1, rfl⟩ := r'; rw [show eqb .non (.str y0) = false by simp [eqb]] at q; exact RcAt.none_str y0 t1 _ _ _ _ q
    | lst k1 k2 => cases r'; obtain ⟨_, _, p⟩ := R.at_list I e k1; rw [show eqb .non (.lst _) = false by simp [eqb]] at q; exact RcAt.none_list  p hu _ _ _ _ q
    | tup k1 k2 => cases r'; obtain ⟨_, _, p⟩ := R.at_tup I e k1; rw [show eqb .non (.tup _) = false by simp [eqb]] at q; exact RcAt.none_tuple  p hu _ _ _ _ q
    | dct k1 k2 k3 => simp [cpt] at c
    | obj k1 k2 k3 => simp [cpt] at c
    | scr k1 k2 => simp [cpt] at c
  | bl x0 =>
    cases r
    cases h' with
    | non => cases r'; rw [show eqb (.bl x0) .non = false by simp [eqb]] at q; exact RcAt.bool_none x0 _ _ _ _ q
    | bl y0 => cases r'; rw [eqb] at q; exact RcAt.bool_bool x0 y0 _ _ _ _ q
    | int y0 => obtain ⟨t1, rfl⟩ := r'; rw [eqb] at q; exact RcAt.bool_int x0 y0 t1 _ _ _ _ q
    | str y0 => obtain ⟨t1, rfl⟩ := r'; rw [show eqb (.bl x0) (.str y0) = false by simp [eqb]] at q; exact RcAt.bool_str x0 y0 t1 _ _ _ _ q
    | lst k1 k2 => cases r'; obtain ⟨_, _, p⟩ := R.at_list I e k1; rw [show eqb (.bl x0) (.lst _) = false by simp [eqb]] at q; exact RcAt.bool_list x0 p hu _ _ _ _ q
    | tup k1 k2 => cases r'; obtain ⟨_, _, p⟩ := R.at_tup I e k1; rw [show eqb (.bl x0) (.tup _) = false by simp [eqb]] at q; exact RcAt.bool_tuple x0 p hu _ _ _ _ q
    | dct k1 k2 k3 => simp [cpt] at c
    | obj k1 k2 k3 => simp [cpt] at c
    | scr k1 k2 => simp [cpt] at c
  | int x0 =>
    obtain ⟨t0, rfl⟩ := r
    cases h' with
    | non => cases r'; rw [show eqb (.int x0) .non = false by simp [eqb]] at q; exact RcAt.int_none x0 t0 _ _ _ _ q
    | bl y0 => cases r'; rw [eqb] at q; exact RcAt.int_bool x0 t0 y0 _ _ _ _ q
    | int y0 => obtain ⟨t1, rfl⟩ := r'; rw [eqb] at q; exact RcAt.int_int x0 t0 y0 t1 _ _ _ _ q
    | str y0 => obtain ⟨t1, rfl⟩ := r'; rw [show eqb (.int x0) (.str y0) = false by simp [eqb]] at q; exact RcAt.int_str x0 t0 y0 t1 _ _ _ _ q
    | lst k1 k2 => cases r'; obtain ⟨_, _, p⟩ := R.at_list I e k1; rw [show eqb (.int x0) (.lst _) = false by simp [eqb]] at q; exact RcAt.int_list x0 t0 p hu _ _ _ _ q
    | tup k1 k2 => cases r'; obtain ⟨_, _, p⟩ := R.at_tup I e k1; rw [show eqb (.int x0) (.tup _) = false by simp [eqb]] at q; exact RcAt.int_tuple x0 t0 p hu _ _ _ _ q
    | dct k1 k2 k3 => simp [cpt] at c
    | obj k1 k2 k3 => simp [cpt] at c
    | scr k1 k2 => simp [cpt] at c
  | str x0 =>
    obtain ⟨t0, rfl⟩ := r
    cases h' with
    | non => cases r'; rw [show eqb (.str x0) .non = false by simp [eqb]] at q; exact RcAt.str_none x0 t0 _ _ _ _ q
    | bl y0 => cases r'; rw [show eqb (.str x0) (.bl y0) = false by simp [eqb]] at q; exact RcAt.str_bool x0 t0 y0 _ _ _ _ q
    | int y0 => obtain ⟨t1, rfl⟩ := r'; rw [show eqb (.str x0) (.int y0) = false by simp [eqb]] at q; exact RcAt.str_int x0 t0 y0 t1 _ _ _ _ q
    | str y0 => obtain ⟨t1, rfl⟩ := r'; rw [eqb] at q; exact RcAt.str_str x0 t0 y0 t1 _ _ _ _ q
    | lst k1 k2 => cases r'; obtain ⟨_, _, p⟩ := R.at_list I e k1; rw [show eqb (.str x0) (.lst _) = false by simp [eqb]] at q; exact RcAt.str_list x0 t0 p hu _ _ _ _ q
    | tup k1 k2 => cases r'; obtain ⟨_, _, p⟩ := R.at_tup I e k1; rw [show eqb (.str x0) (.tup _) = false by simp [eqb]] at q; exact RcAt.str_tuple x0 t0 p hu _ _ _ _ q
    | dct k1 k2 k3 => simp [cpt] at c
    | obj k1 k2 k3 => simp [cpt] at c
    | scr k1 k2 => simp [cpt] at c
  | @lst a vs xs k1 k2 =>
    cases r
    obtain ⟨its, q1, p1⟩ := R.at_list I e k1
    cases h' with
    | non => cases r'; rw [show eqb (.lst xs) .non = false by simp [eqb]] at q; exact RcAt.list_none  p1 hu _ _ _ _ q
    | bl y0 => cases r'; rw [show eqb (.lst xs) (.bl y0) = false by simp [eqb]] at q; exact RcAt.list_bool y0 p1 hu _ _ _ _ q
    | int y0 => obtain ⟨t1, rfl⟩ := r'; rw [show eqb (.lst xs) (.int y0) = false by simp [eqb]] at q; exact RcAt.list_int y0 t1 p1 hu _ _ _ _ q
    | str y0 => obtain ⟨t1, rfl⟩ := r'; rw [show eqb (.lst xs) (.str y0) = false by simp [eqb]] at q; exact RcAt.list_str y0 t1 p1 hu _ _ _ _ q
    | dct k1 k2 k3 => simp [cpt] at c
    | obj k1 k2 k3 => simp [cpt] at c
    | scr k1 k2 => simp [cpt] at c
    | @tup b ws ys k3 k4 =>
      cases r'
      obtain ⟨its', q2, p2⟩ := R.at_tup I e k3
      rw [show eqb (.lst xs) (.tup ys) = false by simp [eqb]] at q
      exact RcAt.list_tuple p1 p2 hu _ _ _ _ q
    | @lst b ws ys k3 k4 =>
      cases r'
      obtain ⟨its', q2, p2⟩ := R.at_list I e k3
      rw [cpt] at c
      rw [dp] at n
      rw [eqb] at q
      exact eq_lists I e hu0 (by omega) c k2 k4 q1 q2 p1 p2 q
  | @tup a vs xs k1 k2 =>
    cases r
    obtain ⟨its, q1, p1⟩ := R.at_tup I e k1
    cases h' with
    | non => cases r'; rw [show eqb (.tup xs) .non = false by simp [eqb]] at q; exact RcAt.tuple_none  p1 hu _ _ _ _ q
    | bl y0 => cases r'; rw [show eqb (.tup xs) (.bl y0) = false by simp [eqb]] at q; exact RcAt.tuple_bool y0 p1 hu _ _ _ _ q
    | int y0 => obtain ⟨t1, rfl⟩ := r'; rw [show eqb (.tup xs) (.int y0) = false by simp [eqb]] at q; exact RcAt.tuple_int y0 t1 p1 hu _ _ _ _ q
    | str y0 => obtain ⟨t1, rfl⟩ := r'; rw [show eqb (.tup xs) (.str y0) = false by simp [eqb]] at q; exact RcAt.tuple_str y0 t1 p1 hu _ _ _ _ q
    | dct k1 k2 k3 => simp [cpt] at c
    | obj k1 k2 k3 => simp [cpt] at c
    | scr k1 k2 => simp [cpt] at c
    | @lst b ws ys k3 k4 =>
      cases r'
      obtain ⟨its', q2, p2⟩ := R.at_list I e k3
      rw [show eqb (.tup xs) (.lst ys) = false by simp [eqb]] at q
      exact RcAt.tuple_list p1 p2 hu _ _ _ _ q
    | @tup b ws ys k3 k4 =>
      cases r'
      obtain ⟨its', q2, p2⟩ := R.at_tup I e k3
      rw [cpt] at c
      rw [dp] at n
      rw [eqb] at q
      exact eq_tuples I e hu0 (by omega) c k2 k4 q1 q2 p1 p2 q
  | dct k1 k2 k3 => simp [cpt] at c
  | obj k1 k2 k3 => simp [cpt] at c
  | scr k1 k2 => simp [cpt] at c
theorem rc_ne (I : Inv X pins σ H s) (e : Same F H) (hu0 : A.units + 60 < cLine) {d d' : Dat} {v v' : V} {u u' : Value} (n : dp d ≤ 50) (c : cpt d d' = true) (h : R X.K cm F v d) (h' : R X.K cm F v' d') (r : RelV v u) (r' : RelV v' u') (q : Q (.bool (!eqb d d')) s) : wpAny (model X.prog X.w) A (richCompare .NotEq u u') Q E s := by
  have hu : A.units < cLine := by omega
  cases h with
  | non =>
    cases r
    cases h' with
    | non => cases r'; rw [eqb] at q; exact RcNeAt.none_none  _ _ _ _ q
    | bl y0 => cases r'; rw [show eqb .non (.bl y0) = false by simp [eqb]] at q; exact RcNeAt.none_bool y0 _ _ _ _ q
    | int y0 => obtain ⟨t1, rfl⟩ := r'; rw [show eqb .non (.int y0) = false by simp [eqb]] at q; exact RcNeAt.none_int y0 t1 _ _ _ _ q
    | str y0 => obtain ⟨t1, rfl⟩ := r'; rw [show eqb .non (.str y0) = false by simp [eqb]] at q; exact RcNeAt.none_str y0 t1 _ _ _ _ q
    | lst k1 k2 => cases r'; obtain ⟨_, _, p⟩ := R.at_list I e k1; rw [show eqb .non (.lst _) = false by simp [eqb]] at q; exact RcNeAt.none_list  p hu _ _ _ _ q
    | tup k1 k2 => cases r'; obtain ⟨_, _, p⟩ := R.at_tup I e k1; rw [show eqb .non (.tup _) = false by simp [eqb]] at q; exact RcNeAt.none_tuple  p hu _ _ _ _ q
    | dct k1 k2 k3 => simp [cpt] at c
    | obj k1 k2 k3 => simp [cpt] at c
    | scr k1 k2 => simp [cpt] at c
  | bl x0 =>
    cases r
    cases h' with
    | non => cases r'; rw [show eqb (.bl x0) .non = false by simp [eqb]] at q; exact RcNeAt.bool_none x0 _ _ _ _ q
    | bl y0 => cases r'; rw [eqb] at q; exact RcNeAt.bool_bool x0 y0 _ _ _ _ q
    | int y0 => obtain ⟨t1, rfl⟩ := r'; rw [eqb] at q; exact RcNeAt.bool_int x0 y0 t1 _ _ _ _ q
    | str y0 => obtain ⟨t1, rfl⟩ := r'; rw [show eqb (.bl x0) (.str y0) = false by simp [eqb]] at q; exact RcNeAt.bool_str x0 y0 t1 _ _ _ _ q
    | lst k1 k2 => cases r'; obtain ⟨_, _, p⟩ := R.at_list I e k1; rw [show eqb (.bl x0) (.lst _) = false by simp [eqb]] at q; exact RcNeAt.bool_list x0 p hu _ _ _ _ q
    | tup k1 k2 => cases r'; obtain ⟨_, _, p⟩ := R.at_tup I e k1; rw [show eqb (.bl x0) (.tup _) = false by simp [eqb]] at q; exact RcNeAt.bool_tuple x0 p hu _ _ _ _ q
    | dct k1 k2 k3 => simp [cpt] at c
    | obj k1 k2 k3 => simp [cpt] at c
    | scr k1 k2 => simp [cpt] at c
  | int x0 =>
    obtain ⟨t0, rfl⟩ := r
    cases h' with
    | non => cases r'; rw [show eqb (.int x0) .non = false by simp [eqb]] at q; exact RcNeAt.int_none x0 t0 _ _ _ _ q
    | bl y0 => cases r'; rw [eqb] at q; exact RcNeAt.int_bool x0 t0 y0 _ _ _ _ q
    | int y0 => obtain ⟨t1, rfl⟩ := r'; rw [eqb] at q; exact RcNeAt.int_int x0 t0 y0 t1 _ _ _ _ q
    | str y0 => obtain ⟨t1, rfl⟩ := r'; rw [show eqb (.int x0) (.str y0) = false by simp [eqb]] at q; exact RcNeAt.int_str x0 t0 y0 t1 _ _ _ _ q
    | lst k1 k2 => cases r'; obtain ⟨_, _, p⟩ := R.at_list I e k1; rw [show eqb (.int x0) (.lst _) = false by simp [eqb]] at q; exact RcNeAt.int_list x0 t0 p hu _ _ _ _ q
    | tup k1 k2 => cases r'; obtain ⟨_, _, p⟩ := R.at_tup I e k1; rw [show eqb (.int x0) (.tup _) = false by simp [eqb]] at q; exact RcNeAt.int_tuple x0 t0 p hu _ _ _ _ q
    | dct k1 k2 k3 => simp [cpt] at c
    | obj k1 k2 k3 => simp [cpt] at c
    | scr k1 k2 => simp [cpt] at c
  | str x0 =>
    obtain ⟨t0, rfl⟩ := r
    cases h' with
    | non => cases r'; rw [show eqb (.str x0) .non = false by simp [eqb]] at q; exact RcNeAt.str_none x0 t0 _ _ _ _ q
    | bl y0 => cases r'; rw [show eqb (.str x0) (.bl y0) = false by simp [eqb]] at q; exact RcNeAt.str_bool x0 t0 y0 _ _ _ _ q
    | int y0 => obtain ⟨t1, rfl⟩ := r'; rw [show eqb (.str x0) (.int y0) = false by simp [eqb]] at q; exact RcNeAt.str_int x0 t0 y0 t1 _ _ _ _ q
    | str y0 => obtain ⟨t1, rfl⟩ := r'; rw [eqb] at q; exact RcNeAt.str_str x0 t0 y0 t1 _ _ _ _ q
    | lst k1 k2 => cases r'; obtain ⟨_, _, p⟩ := R.at_list I e k1; rw [show eqb (.str x0) (.lst _) = false by simp [eqb]] at q; exact RcNeAt.str_list x0 t0 p hu _ _ _ _ q
    | tup k1 k2 => cases r'; obtain ⟨_, _, p⟩ := R.at_tup I e k1; rw [show eqb (.str x0) (.tup _) = false by simp [eqb]] at q; exact RcNeAt.str_tuple x0 t0 p hu _ _ _ _ q
    | dct k1 k2 k3 => simp [cpt] at c
    | obj k1 k2 k3 => simp [cpt] at c
    | scr k1 k2 => simp [cpt] at c
  | @lst a vs xs k1 k2 =>
    cases r
    obtain ⟨its, q1, p1⟩ := R.at_list I e k1
    cases h' with
    | non => cases r'; rw [show eqb (.lst xs) .non = false by simp [eqb]] at q; exact RcNeAt.list_none  p1 hu _ _ _ _ q
    | bl y0 => cases r'; rw [show eqb (.lst xs) (.bl y0) = false by simp [eqb]] at q; exact RcNeAt.list_bool y0 p1 hu _ _ _ _ q
    | int y0 => obtain ⟨t1, rfl⟩ := r'; rw [show eqb (.lst xs) (.int y0) = false by simp [eqb]] at q; exact RcNeAt.list_int y0 t1 p1 hu _ _ _ _ q
    | str y0 => obtain ⟨t1, rfl⟩ := r'; rw [show eqb (.lst xs) (.str y0) = false by simp [eqb]] at q; exact RcNeAt.list_str y0 t1 p1 hu _ _ _ _ q
    | dct k1 k2 k3 => simp [cpt] at c
    | obj k1 k2 k3 => simp [cpt] at c
    | scr k1 k2 => simp [cpt] at c
    | @tup b ws ys k3 k4 =>
      cases r'
      obtain ⟨its', q2, p2⟩ := R.at_tup I e k3
      rw [show eqb (.lst xs) (.tup ys) = false by simp [eqb]] at q
      exact RcNeAt.list_tuple p1 p2 hu _ _ _ _ q
    | @lst b ws ys k3 k4 =>
      cases r'
      obtain ⟨its', q2, p2⟩ := R.at_list I e k3
      rw [cpt] at c
      rw [dp] at n
      rw [eqb] at q
      exact ne_lists I e hu0 (by omega) c k2 k4 q1 q2 p1 p2 q
  | @tup a vs xs k1 k2 =>
    cases r
    obtain ⟨its, q1, p1⟩ := R.at_tup I e k1
    cases h' with
    | non => cases r'; rw [show eqb (.tup xs) .non = false by simp [eqb]] at q; exact RcNeAt.tuple_none  p1 hu _ _ _ _ q
    | bl y0 => cases r'; rw [show eqb (.tup xs) (.bl y0) = false by simp [eqb]] at q; exact RcNeAt.tuple_bool y0 p1 hu _ _ _ _ q
    | int y0 => obtain ⟨t1, rfl⟩ := r'; rw [show eqb (.tup xs) (.int y0) = false by simp [eqb]] at q; exact RcNeAt.tuple_int y0 t1 p1 hu _ _ _ _ q
    | str y0 => obtain ⟨t1, rfl⟩ := r'; rw [show eqb (.tup xs) (.str y0) = false by simp [eqb]] at q; exact RcNeAt.tuple_str y0 t1 p1 hu _ _ _ _ q
    | dct k1 k2 k3 => simp [cpt] at c
    | obj k1 k2 k3 => simp [cpt] at c
    | scr k1 k2 => simp [cpt] at c
    | @lst b ws ys k3 k4 =>
      cases r'
      obtain ⟨its', q2, p2⟩ := R.at_list I e k3
      rw [show eqb (.tup xs) (.lst ys) = false by simp [eqb]] at q
      exact RcNeAt.tuple_list p1 p2 hu _ _ _ _ q
    | @tup b ws ys k3 k4 =>
      cases r'
      obtain ⟨its', q2, p2⟩ := R.at_tup I e k3
      rw [cpt] at c
      rw [dp] at n
      rw [eqb] at q
      exact ne_tuples I e hu0 (by omega) c k2 k4 q1 q2 p1 p2 q
  | dct k1 k2 k3 => simp [cpt] at c
  | obj k1 k2 k3 => simp [cpt] at c
  | scr k1 k2 => simp [cpt] at c
end
/-! ### the operators -/
def rDat (K : PySem.W.Frag) (cm : Str → Addr) (p : Dat → Dat → Prop) (g : Dat → Dat → Bool) : R2 := fun x y H Q => ∃ F d d', Same F H ∧ R K cm F x d ∧ R K cm F y d' ∧ p d d' ∧ Q (.bl (g d d')) H
def okEq (d d' : Dat) : Prop := dp d ≤ 50 ∧ cpt d d' = true
section
variable {X : Cx} {cm : Str → Addr}
theorem op_deq (hu : X.A.units + 64 < cLine) : OpR X (compareOp .Eq) (rDat X.K cm okEq eqb) := by
  intro pins s σ H x y v u Q I rx ry ⟨F, d, d', e, r, r', ⟨n, c⟩, q⟩
  exact rc_eq I e (by omega) n c r r' rx ry ⟨.bl _, H, I, rfl, q⟩
theorem op_dne (hu : X.A.units + 64 < cLine) : OpR X (compareOp .NotEq) (rDat X.K cm okEq fun d d' => !eqb d d') := by
  intro pins s σ H x y v u Q I rx ry ⟨F, d, d', e, r, r', ⟨n, c⟩, q⟩
  exact rc_ne I e (by omega) n c r r' rx ry ⟨.bl _, H, I, rfl, q⟩
def eqD (d d' : Dat) : Option Dat := if decide (dp d ≤ 50) && cpt d d' then some (.bl (eqb d d')) else none
def neD (d d' : Dat) : Option Dat := if decide (dp d ≤ 50) && cpt d d' then some (.bl (!eqb d d')) else none
theorem od_of {p : Dat → Dat → Prop} {g : Dat → Dat → Bool} {f : Dat → Dat → Option Dat} (h : ∀ d d' z, f d d' = some z → p d d' ∧ z = .bl (g d d')) : OpD X cm (rDat X.K cm p g) f := fun F H x y a b d Q e r1 r2 hg k => by
  obtain ⟨hp, rfl⟩ := h a b d hg
  exact ⟨F, a, b, e, r1, r2, hp, k _ F H (Ext.refl e) (.bl _)⟩
theorem od_eq : OpD X cm (rDat X.K cm okEq eqb) eqD := od_of fun d d' z h => by
  unfold eqD at h
  split at h
  · rename_i c
    rw [Bool.and_eq_true, decide_eq_true_eq] at c
    exact ⟨c, (Option.some.inj h).symm⟩
  · cases h
theorem od_ne : OpD X cm (rDat X.K cm okEq fun d d' => !eqb d d') neD := od_of fun d d' z h => by
  unfold neD at h
  split at h
  · rename_i c
    rw [Bool.and_eq_true, decide_eq_true_eq] at c
    exact ⟨c, (Option.some.inj h).symm⟩
  · cases h
end
end Pq

namespace Pq
open PySem PySem.Spec PyProof.Rows L2
noncomputable section

/-! ### what is new: settled, or of one's own -/
section
variable {K : PySem.W.Frag} {cm : Str → Addr} {F H : Hp} {vs : List V} {ds : List Dat} {Q : VK}
theorem new_lst (e : Same F H) (r : Rs K cm F vs ds) (k : ∀ v F' H', Ext F H F' H' → R K cm F' v (.lst ds) → Q v H') : ∀ p, H p = none → Q (.ref p) (upd H p (.lst vs)) := fun p hp =>
  k _ _ _ (Ext.laid e hp) (.lst (.inl upd_same) (r.mono (same_new (e.free hp))))
theorem new_tup (e : Same F H) (r : Rs K cm F vs ds) (k : ∀ v F' H', Ext F H F' H' → R K cm F' v (.tup ds) → Q v H') : ∀ p, H p = none → Q (.ref p) (upd H p (.tup vs)) := fun p hp =>
  k _ _ _ (Ext.laid e hp) (.tup (.inl (.inl upd_same)) (r.mono (same_new (e.free hp))))
theorem ros_fro : ∀ {vs : List V} {ds : List Dat}, Rs K cm F vs ds → ROs K cm F H vs (ds.map SV.fro) []
  | _, _, .nil => .nil
  | _, _, .cons r t => .cons (A := []) (B := []) (.fro r) (ros_fro t)
theorem frzs_fro (ds : List Dat) : frzs (ds.map SV.fro) = ds := by
  rw [frzs_map, List.map_map]
  have : frz ∘ SV.fro = id := by funext d; rw [Function.comp, frz]; rfl
  rw [this, List.map_id]
theorem own_lst (e : Same F H) (r : Rs K cm F vs ds) (k : ∀ v F' H' A, Ext F H F' H' → RO K cm F' H' v (.ol (ds.map SV.fro)) A → A.Nodup → (∀ a ∈ A, H a = none) → Q v H') : ∀ p, H p = none → Q (.ref p) (upd H p (.lst vs)) := fun p hp =>
  k _ F _ [p] (Ext.open e hp) (.ol (e.free hp) upd_same (ros_fro r)) (by simp) (by simpa using hp)
end

section
variable {X : Cx} {cm : Str → Addr}

/-! ### operators on ints, texts, lists -/
def rCatR : R2 := fun x y H Q => ∃ l b xs zs, x = .ref l ∧ y = .ref b ∧ Rd H l (.lst xs) ∧ Rd H b (.lst zs) ∧ xs.length + zs.length ≤ sizeLine ∧ ∀ p, H p = none → Q (.ref p) (upd H p (.lst (xs ++ zs)))
theorem op_catR : OpR X (binaryOp .Add) rCatR := by
  intro pins s σ H x y v u Q I rx ry ⟨l, b, xs, zs, ex, ey, h1, h2, hz, q⟩
  subst ex ey
  cases rx
  cases ry
  obtain ⟨z1, its1, n1, r1, e1⟩ := h1.ok I.hok
  obtain ⟨z2, its2, n2, r2, e2⟩ := h2.ok I.hok
  have l1 := r1.length
  have l2 := r2.length
  refine PySem.P.add_list e1 e2 ?_ (by rw [List.size_toArray, List.size_toArray]; omega)
  have ea : its1.toArray ++ its2.toArray = (its1 ++ its2).toArray := by simp
  rw [ea]
  exact ⟨.ref _, _, I.lnew (t' := s.toks) (r1.append r2) (by rw [List.length_append]; omega), rfl, q _ I.fresh⟩
def rAddA : R2 := fun x y H Q => (∃ i j, x = V.int i ∧ y = V.int j ∧ Q (.int (i + j)) H) ∨ ((∃ i j, x = V.str i ∧ y = V.str j ∧ i.length + j.length ≤ sizeLine ∧ Q (.str (i ++ j)) H) ∨ rCatR x y H Q)
theorem op_addA : OpR X (binaryOp .Add) rAddA := op_add.or (op_add_str.or op_catR)
def addD : Dat → Dat → Option Dat
  | .int i, .int j => some (.int (i + j))
  | .str x, .str y => @ite _ (x.length + y.length ≤ sizeLine) (Classical.propDecidable _) (some (.str (x ++ y))) none
  | .lst xs, .lst ys => @ite _ (xs.length + ys.length ≤ sizeLine) (Classical.propDecidable _) (some (.lst (xs ++ ys))) none
  | _, _ => none
theorem ifp {α : Sort _} {c : Prop} {I : Decidable c} {a b : α} (h : c) : @ite α c I a b = a := by
  cases I with
  | isTrue _ => rfl
  | isFalse n => exact absurd h n
theorem ite_some {α : Type} {c : Prop} {I : Decidable c} {x y : α} (h : (@ite _ c I (some x) none) = some y) : c ∧ x = y := by
  split at h
  · exact ⟨by assumption, Option.some.inj h⟩
  · cases h
theorem R.lst_inv {K : PySem.W.Frag} {F : Hp} {v : V} {ds : List Dat} (h : R K cm F v (.lst ds)) : ∃ a vs, v = .ref a ∧ Rd F a (.lst vs) ∧ Rs K cm F vs ds := by
  cases h with
  | lst h r => exact ⟨_, _, rfl, h, r⟩
theorem R.tup_inv {K : PySem.W.Frag} {F : Hp} {v : V} {ds : List Dat} (h : R K cm F v (.tup ds)) : ∃ a vs, v = .ref a ∧ SqT K F a vs ∧ Rs K cm F vs ds := by
  cases h with
  | tup h r => exact ⟨_, _, rfl, h, r⟩
theorem od_add : OpD X cm rAddA addD := by
  intro F H x y a b d Q e r1 r2 hg k
  unfold addD at hg
  split at hg
  · cases hg
    exact .inl ⟨_, _, r1.int_inv, r2.int_inv, k _ F H (Ext.refl e) (.int _)⟩
  · obtain ⟨c, rfl⟩ := ite_some hg
    exact .inr (.inl ⟨_, _, r1.str_inv, r2.str_inv, c, k _ F H (Ext.refl e) (.str _)⟩)
  · obtain ⟨c, rfl⟩ := ite_some hg
    obtain ⟨p, vs, rfl, h1, q1⟩ := r1.lst_inv
    obtain ⟨q, ws, rfl, h2, q2⟩ := r2.lst_inv
    refine .inr (.inr ⟨p, q, vs, ws, rfl, rfl, same_rd e h1, same_rd e h2, by rw [q1.length, q2.length]; exact c, new_lst e (q1.append q2) k⟩)
  · cases hg
theorem od_I {C : Int → Int → Prop} {g : Int → Int → Int} {f : Dat → Dat → Option Dat} (h : ∀ a b d, f a b = some d → ∃ i j, a = .int i ∧ b = .int j ∧ C i j ∧ d = .int (g i j)) : OpD X cm (rI C fun i j => .int (g i j)) f := fun F H x y a b d Q e r1 r2 hg k => by
  obtain ⟨i, j, rfl, rfl, hc, rfl⟩ := h a b d hg
  exact ⟨i, j, r1.int_inv, r2.int_inv, hc, k _ F H (Ext.refl e) (.int _)⟩
theorem od_I0 {g : Int → Int → Int} {f : Dat → Dat → Option Dat} (h : ∀ a b d, f a b = some d → ∃ i j, a = .int i ∧ b = .int j ∧ d = .int (g i j)) : OpD X cm (rI0 fun i j => .int (g i j)) f := fun F H x y a b d Q e r1 r2 hg k => by
  obtain ⟨i, j, rfl, rfl, rfl⟩ := h a b d hg
  exact ⟨i, j, r1.int_inv, r2.int_inv, k _ F H (Ext.refl e) (.int _)⟩
theorem od_B0 {g : Int → Int → Bool} {f : Dat → Dat → Option Dat} (h : ∀ a b d, f a b = some d → ∃ i j, a = .int i ∧ b = .int j ∧ d = .bl (g i j)) : OpD X cm (rI0 fun i j => .bl (g i j)) f := fun F H x y a b d Q e r1 r2 hg k => by
  obtain ⟨i, j, rfl, rfl, rfl⟩ := h a b d hg
  exact ⟨i, j, r1.int_inv, r2.int_inv, k _ F H (Ext.refl e) (.bl _)⟩
def subD : Dat → Dat → Option Dat
  | .int i, .int j => some (.int (i - j))
  | _, _ => none
def mulD : Dat → Dat → Option Dat
  | .int i, .int j => @ite _ ((-(2 ^ 64) < i ∧ i < 2 ^ 64) ∨ (-(2 ^ 64) < j ∧ j < 2 ^ 64)) (Classical.propDecidable _) (some (.int (i * j))) none
  | _, _ => none
def divD : Dat → Dat → Option Dat
  | .int i, .int j => @ite _ (0 < j ∧ j < 1073741824) (Classical.propDecidable _) (some (.int (i / j))) none
  | _, _ => none
def modD : Dat → Dat → Option Dat
  | .int i, .int j => @ite _ (0 < j) (Classical.propDecidable _) (some (.int (i % j))) none
  | _, _ => none
def powD : Dat → Dat → Option Dat
  | .int i, .int j => @ite _ (0 ≤ j ∧ j ≤ 1000000 ∧ i.natAbs < 2 ^ 64) (Classical.propDecidable _) (some (.int (i ^ j.toNat))) none
  | _, _ => none
def shlD : Dat → Dat → Option Dat
  | .int i, .int j => @ite _ (0 ≤ j ∧ j ≤ 1000000 ∧ i.natAbs < 2 ^ 64) (Classical.propDecidable _) (some (.int (i * 2 ^ j.toNat))) none
  | _, _ => none
def shrD : Dat → Dat → Option Dat
  | .int i, .int j => @ite _ (0 ≤ j) (Classical.propDecidable _) (some (.int (i / 2 ^ j.toNat))) none
  | _, _ => none
def andD : Dat → Dat → Option Dat
  | .int i, .int j => some (.int (Builtin.bitAnd i j))
  | _, _ => none
def xorD : Dat → Dat → Option Dat
  | .int i, .int j => some (.int (Builtin.bitXor i j))
  | _, _ => none
theorem od_sub : OpD X cm (rI0 fun i j => .int (i - j)) subD := od_I0 (g := fun i j => i - j) fun a b d h => by
  unfold subD at h
  split at h
  · cases h; exact ⟨_, _, rfl, rfl, rfl⟩
  · cases h
theorem od_mul : OpD X cm (rI CMul fun i j => .int (i * j)) mulD := od_I (g := fun i j => i * j) fun a b d h => by
  unfold mulD at h
  split at h
  · obtain ⟨c, rfl⟩ := ite_some h; exact ⟨_, _, rfl, rfl, c, rfl⟩
  · cases h
theorem od_div : OpD X cm (rI CDiv fun i j => .int (i / j)) divD := od_I (g := fun i j => i / j) fun a b d h => by
  unfold divD at h
  split at h
  · obtain ⟨c, rfl⟩ := ite_some h; exact ⟨_, _, rfl, rfl, c, rfl⟩
  · cases h
theorem od_mod : OpD X cm (rI (fun _ j => 0 < j) fun i j => .int (i % j)) modD := od_I (g := fun i j => i % j) fun a b d h => by
  unfold modD at h
  split at h
  · obtain ⟨c, rfl⟩ := ite_some h; exact ⟨_, _, rfl, rfl, c, rfl⟩
  · cases h
theorem od_pow : OpD X cm (rI CPow fun i j => .int (i ^ j.toNat)) powD := od_I (g := fun i j => i ^ j.toNat) fun a b d h => by
  unfold powD at h
  split at h
  · obtain ⟨c, rfl⟩ := ite_some h; exact ⟨_, _, rfl, rfl, c, rfl⟩
  · cases h
theorem od_shl : OpD X cm (rI CPow fun i j => .int (i * 2 ^ j.toNat)) shlD := od_I (g := fun i j => i * 2 ^ j.toNat) fun a b d h => by
  unfold shlD at h
  split at h
  · obtain ⟨c, rfl⟩ := ite_some h; exact ⟨_, _, rfl, rfl, c, rfl⟩
  · cases h
theorem od_shr : OpD X cm (rI (fun _ j => 0 ≤ j) fun i j => .int (i / 2 ^ j.toNat)) shrD := od_I (g := fun i j => i / 2 ^ j.toNat) fun a b d h => by
  unfold shrD at h
  split at h
  · obtain ⟨c, rfl⟩ := ite_some h; exact ⟨_, _, rfl, rfl, c, rfl⟩
  · cases h
theorem od_and : OpD X cm (rI0 fun i j => .int (Builtin.bitAnd i j)) andD := od_I0 (g := fun i j => Builtin.bitAnd i j) fun a b d h => by
  unfold andD at h
  split at h
  · cases h; exact ⟨_, _, rfl, rfl, rfl⟩
  · cases h
theorem od_xor : OpD X cm (rI0 fun i j => .int (Builtin.bitXor i j)) xorD := od_I0 (g := fun i j => Builtin.bitXor i j) fun a b d h => by
  unfold xorD at h
  split at h
  · cases h; exact ⟨_, _, rfl, rfl, rfl⟩
  · cases h
def negD : Dat → Option Dat
  | .int i => some (.int (-i))
  | _ => none
theorem ud_neg : UnD X cm (rU fun i => .int (-i)) negD := fun F H x a d Q e r hg k => by
  unfold negD at hg
  split at hg
  · cases hg; exact ⟨_, r.int_inv, k _ F H (Ext.refl e) (.int _)⟩
  · cases hg
variable {a b e : Expr} {fa fb : Rho → Option Dat} {pos : Pos}
theorem e_add (ha : PE X a (ofE X.K cm fa)) (hb : PE X b (ofE X.K cm fb)) : PE X (.BinOp a .Add b pos) (ofE X.K cm (bin addD fa fb)) := e_bin op_addA od_add ha hb
theorem e_sub (ha : PE X a (ofE X.K cm fa)) (hb : PE X b (ofE X.K cm fb)) : PE X (.BinOp a .Sub b pos) (ofE X.K cm (bin subD fa fb)) := e_bin op_sub od_sub ha hb
theorem e_mul (ha : PE X a (ofE X.K cm fa)) (hb : PE X b (ofE X.K cm fb)) : PE X (.BinOp a .Mult b pos) (ofE X.K cm (bin mulD fa fb)) := e_bin op_mul od_mul ha hb
theorem e_div (ha : PE X a (ofE X.K cm fa)) (hb : PE X b (ofE X.K cm fb)) : PE X (.BinOp a .FloorDiv b pos) (ofE X.K cm (bin divD fa fb)) := e_bin op_fdiv od_div ha hb
theorem e_mod (ha : PE X a (ofE X.K cm fa)) (hb : PE X b (ofE X.K cm fb)) : PE X (.BinOp a .Mod b pos) (ofE X.K cm (bin modD fa fb)) := e_bin op_mod od_mod ha hb
theorem e_pow (ha : PE X a (ofE X.K cm fa)) (hb : PE X b (ofE X.K cm fb)) : PE X (.BinOp a .Pow b pos) (ofE X.K cm (bin powD fa fb)) := e_bin op_pow od_pow ha hb
theorem e_shl (ha : PE X a (ofE X.K cm fa)) (hb : PE X b (ofE X.K cm fb)) : PE X (.BinOp a .LShift b pos) (ofE X.K cm (bin shlD fa fb)) := e_bin op_shl od_shl ha hb
theorem e_shr (ha : PE X a (ofE X.K cm fa)) (hb : PE X b (ofE X.K cm fb)) : PE X (.BinOp a .RShift b pos) (ofE X.K cm (bin shrD fa fb)) := e_bin op_shr od_shr ha hb
theorem e_and (ha : PE X a (ofE X.K cm fa)) (hb : PE X b (ofE X.K cm fb)) : PE X (.BinOp a .BitAnd b pos) (ofE X.K cm (bin andD fa fb)) := e_bin op_and od_and ha hb
theorem e_xor (ha : PE X a (ofE X.K cm fa)) (hb : PE X b (ofE X.K cm fb)) : PE X (.BinOp a .BitXor b pos) (ofE X.K cm (bin xorD fa fb)) := e_bin op_xor od_xor ha hb
theorem e_neg (ha : PE X a (ofE X.K cm fa)) : PE X (.UnaryOp .USub a pos) (ofE X.K cm (un negD fa)) := PE.imp (pe_un un_neg ha) fun σ H Q ⟨F, ρ, As, d, rel, hf, k⟩ => by
  obtain ⟨x, e1, hf⟩ := bind_some hf
  exact ⟨F, ρ, As, x, rel, e1, fun v F1 H1 x1 r1 => ud_neg F1 H1 v x d Q x1.fh r1 hf fun z F3 H3 x3 r3 => k z F3 H3 (x1.trans x3) r3⟩

/-! ### comparisons -/
def rOrd (p : Int → Int → Bool) (q : Str → Str → Bool) : R2 := fun x y H Q => (∃ i j, x = V.int i ∧ y = V.int j ∧ Q (.bl (p i j)) H) ∨ (∃ i j, x = V.str i ∧ y = V.str j ∧ Q (.bl (q i j)) H)
def ltD : Dat → Dat → Option Dat
  | .int i, .int j => some (.bl (decide (i < j)))
  | .str i, .str j => some (.bl (decide (i.cps.toList < j.cps.toList)))
  | _, _ => none
def leD : Dat → Dat → Option Dat
  | .int i, .int j => some (.bl (decide (i ≤ j)))
  | .str i, .str j => some (.bl (!decide (j.cps.toList < i.cps.toList)))
  | _, _ => none
def gtD : Dat → Dat → Option Dat
  | .int i, .int j => some (.bl (decide (j < i)))
  | .str i, .str j => some (.bl (decide (j.cps.toList < i.cps.toList)))
  | _, _ => none
def geD : Dat → Dat → Option Dat
  | .int i, .int j => some (.bl (decide (j ≤ i)))
  | .str i, .str j => some (.bl (!decide (i.cps.toList < j.cps.toList)))
  | _, _ => none
theorem od_ord {p : Int → Int → Bool} {q : Str → Str → Bool} {f : Dat → Dat → Option Dat} (h : ∀ a b d, f a b = some d → (∃ i j, a = .int i ∧ b = .int j ∧ d = .bl (p i j)) ∨ ∃ i j, a = .str i ∧ b = .str j ∧ d = .bl (q i j)) : OpD X cm (rOrd p q) f := fun F H x y a b d Q e r1 r2 hg k => by
  rcases h a b d hg with ⟨i, j, rfl, rfl, rfl⟩ | ⟨i, j, rfl, rfl, rfl⟩
  · exact .inl ⟨i, j, r1.int_inv, r2.int_inv, k _ F H (Ext.refl e) (.bl _)⟩
  · exact .inr ⟨i, j, r1.str_inv, r2.str_inv, k _ F H (Ext.refl e) (.bl _)⟩
theorem od_lt : OpD X cm (rOrd (fun i j => decide (i < j)) fun i j => decide (i.cps.toList < j.cps.toList)) ltD := od_ord fun a b d h => by
  unfold ltD at h
  split at h
  · cases h; exact .inl ⟨_, _, rfl, rfl, rfl⟩
  · cases h; exact .inr ⟨_, _, rfl, rfl, rfl⟩
  · cases h
theorem od_le : OpD X cm (rOrd (fun i j => decide (i ≤ j)) fun i j => !decide (j.cps.toList < i.cps.toList)) leD := od_ord fun a b d h => by
  unfold leD at h
  split at h
  · cases h; exact .inl ⟨_, _, rfl, rfl, rfl⟩
  · cases h; exact .inr ⟨_, _, rfl, rfl, rfl⟩
  · cases h
theorem od_gt : OpD X cm (rOrd (fun i j => decide (j < i)) fun i j => decide (j.cps.toList < i.cps.toList)) gtD := od_ord fun a b d h => by
  unfold gtD at h
  split at h
  · cases h; exact .inl ⟨_, _, rfl, rfl, rfl⟩
  · cases h; exact .inr ⟨_, _, rfl, rfl, rfl⟩
  · cases h
theorem od_ge : OpD X cm (rOrd (fun i j => decide (j ≤ i)) fun i j => !decide (i.cps.toList < j.cps.toList)) geD := od_ord fun a b d h => by
  unfold geD at h
  split at h
  · cases h; exact .inl ⟨_, _, rfl, rfl, rfl⟩
  · cases h; exact .inr ⟨_, _, rfl, rfl, rfl⟩
  · cases h
theorem op_ltA : OpR X (compareOp .Lt) (rOrd (fun i j => decide (i < j)) fun i j => decide (i.cps.toList < j.cps.toList)) := op_lt.or op_lt_str
theorem op_leA : OpR X (compareOp .LtE) (rOrd (fun i j => decide (i ≤ j)) fun i j => !decide (j.cps.toList < i.cps.toList)) := op_le.or op_le_str
theorem op_gtA : OpR X (compareOp .Gt) (rOrd (fun i j => decide (j < i)) fun i j => decide (j.cps.toList < i.cps.toList)) := op_gt.or op_gt_str
theorem op_geA : OpR X (compareOp .GtE) (rOrd (fun i j => decide (j ≤ i)) fun i j => !decide (i.cps.toList < j.cps.toList)) := op_ge.or op_ge_str
/-! is None, is not None -/
def isNo : Dat → Bool
  | .non => true
  | _ => false
theorem R.isN {K : PySem.W.Frag} {F : Hp} {v : V} {d : Dat} (h : R K cm F v d) : decide (v = .non) = isNo d := by
  cases h <;> rfl
def noneS (f : Rho → Option Dat) : Rho → Option Dat := un (fun d => some (.bl (isNo d))) f
def someS (f : Rho → Option Dat) : Rho → Option Dat := un (fun d => some (.bl (!isNo d))) f
theorem none_of {f : Rho → Option Dat} : ∀ σ H Q, ofE X.K cm (noneS f) σ H Q → tIsN (ofE X.K cm f) σ H Q := fun σ H Q ⟨F, ρ, As, d, rel, hf, k⟩ => by
  obtain ⟨x, e1, hf⟩ := bind_some hf
  cases hf
  exact ⟨F, ρ, As, x, rel, e1, fun v F1 H1 x1 r1 => by
    show Q (V.bl (decide (v = .non))) H1
    rw [r1.isN]
    exact k _ F1 H1 x1 (.bl _)⟩
theorem some_of {f : Rho → Option Dat} : ∀ σ H Q, ofE X.K cm (someS f) σ H Q → tNotN (ofE X.K cm f) σ H Q := fun σ H Q ⟨F, ρ, As, d, rel, hf, k⟩ => by
  obtain ⟨x, e1, hf⟩ := bind_some hf
  cases hf
  exact ⟨F, ρ, As, x, rel, e1, fun v F1 H1 x1 r1 => by
    show Q (V.bl (!decide (v = .non))) H1
    rw [r1.isN]
    exact k _ F1 H1 x1 (.bl _)⟩
theorem e_isN {j p} (ha : PE X a (ofE X.K cm fa)) : PE X (.Compare a [.Is] [.Constant .none j p] pos) (ofE X.K cm (noneS fa)) := PE.imp (pe_cmp (pc_isN ha) rfl) none_of
theorem e_notN {j p} (ha : PE X a (ofE X.K cm fa)) : PE X (.Compare a [.IsNot] [.Constant .none j p] pos) (ofE X.K cm (someS fa)) := PE.imp (pe_cmp (pc_notN ha) rfl) some_of
theorem t_isN {j p} (ha : PE X a (ofE X.K cm fa)) : PT X (.Compare a [.Is] [.Constant .none j p] pos) (ofT X.K cm (tst (noneS fa))) := PT.imp (pt_cmp (pc_isN ha)) fun σ H Q q => none_of σ H _ (tst_of σ H Q q)
theorem t_notN {j p} (ha : PE X a (ofE X.K cm fa)) : PT X (.Compare a [.IsNot] [.Constant .none j p] pos) (ofT X.K cm (tst (someS fa))) := PT.imp (pt_cmp (pc_notN ha)) fun σ H Q q => some_of σ H _ (tst_of σ H Q q)
/-! the comparisons' short words -/
theorem e_eq (hu : X.A.units + 64 < cLine) (ha : PE X a (ofE X.K cm fa)) (hb : PE X b (ofE X.K cm fb)) : PE X (.Compare a [.Eq] [b] pos) (ofE X.K cm (bin eqD fa fb)) := e_cmp (op_deq hu) od_eq ha hb (nomark _)
theorem e_ne (hu : X.A.units + 64 < cLine) (ha : PE X a (ofE X.K cm fa)) (hb : PE X b (ofE X.K cm fb)) : PE X (.Compare a [.NotEq] [b] pos) (ofE X.K cm (bin neD fa fb)) := e_cmp (op_dne hu) od_ne ha hb (nomark _)
theorem t_eq (hu : X.A.units + 64 < cLine) (ha : PE X a (ofE X.K cm fa)) (hb : PE X b (ofE X.K cm fb)) : PT X (.Compare a [.Eq] [b] pos) (ofT X.K cm (tst (bin eqD fa fb))) := t_cmp (op_deq hu) od_eq ha hb (nomark _)
theorem t_ne (hu : X.A.units + 64 < cLine) (ha : PE X a (ofE X.K cm fa)) (hb : PE X b (ofE X.K cm fb)) : PT X (.Compare a [.NotEq] [b] pos) (ofT X.K cm (tst (bin neD fa fb))) := t_cmp (op_dne hu) od_ne ha hb (nomark _)
theorem e_lt (ha : PE X a (ofE X.K cm fa)) (hb : PE X b (ofE X.K cm fb)) : PE X (.Compare a [.Lt] [b] pos) (ofE X.K cm (bin ltD fa fb)) := e_cmp op_ltA od_lt ha hb (nomark _)
theorem e_le (ha : PE X a (ofE X.K cm fa)) (hb : PE X b (ofE X.K cm fb)) : PE X (.Compare a [.LtE] [b] pos) (ofE X.K cm (bin leD fa fb)) := e_cmp op_leA od_le ha hb (nomark _)
theorem e_gt (ha : PE X a (ofE X.K cm fa)) (hb : PE X b (ofE X.K cm fb)) : PE X (.Compare a [.Gt] [b] pos) (ofE X.K cm (bin gtD fa fb)) := e_cmp op_gtA od_gt ha hb (nomark _)
theorem e_ge (ha : PE X a (ofE X.K cm fa)) (hb : PE X b (ofE X.K cm fb)) : PE X (.Compare a [.GtE] [b] pos) (ofE X.K cm (bin geD fa fb)) := e_cmp op_geA od_ge ha hb (nomark _)
theorem t_lt (ha : PE X a (ofE X.K cm fa)) (hb : PE X b (ofE X.K cm fb)) : PT X (.Compare a [.Lt] [b] pos) (ofT X.K cm (tst (bin ltD fa fb))) := t_cmp op_ltA od_lt ha hb (nomark _)
theorem t_le (ha : PE X a (ofE X.K cm fa)) (hb : PE X b (ofE X.K cm fb)) : PT X (.Compare a [.LtE] [b] pos) (ofT X.K cm (tst (bin leD fa fb))) := t_cmp op_leA od_le ha hb (nomark _)
theorem t_gt (ha : PE X a (ofE X.K cm fa)) (hb : PE X b (ofE X.K cm fb)) : PT X (.Compare a [.Gt] [b] pos) (ofT X.K cm (tst (bin gtD fa fb))) := t_cmp op_gtA od_gt ha hb (nomark _)
theorem t_ge (ha : PE X a (ofE X.K cm fa)) (hb : PE X b (ofE X.K cm fb)) : PT X (.Compare a [.GtE] [b] pos) (ofT X.K cm (tst (bin geD fa fb))) := t_cmp op_geA od_ge ha hb (nomark _)
/-! a ? b ? c .. -/
def ch1 (g : Dat → Dat → Option Dat) (f : Rho → Option Dat) : Dat → Rho → Option Dat := fun x ρ => (f ρ).bind fun y => g x y
def chC (g : Dat → Dat → Option Dat) (f : Rho → Option Dat) (c : Dat → Rho → Option Dat) : Dat → Rho → Option Dat := fun x ρ => (f ρ).bind fun y => (g x y).bind fun
  | .bl true => c y ρ
  | .bl false => some (.bl false)
  | _ => none
def chn (f : Rho → Option Dat) (c : Dat → Rho → Option Dat) : Rho → Option Dat := fun ρ => (f ρ).bind fun x => c x ρ
structure PCh (X : Cx) (cm : Str → Addr) (ops : List CmpOp) (es : List Expr) (c : Dat → Rho → Option Dat) : Prop where
  val : ∀ (pos : Pos) (pins : List (Addr × Obj)) (s : Shared) (σ : L2.St) (F H : Hp) (ρ : Rho) (As : Nat → List Addr) (v : V) (u : Value) (x d : Dat) (Q : VK), Inv X pins σ H s → Rel X.K cm F H σ ρ As → R X.K cm F v x → RelV v u → c x ρ = some d →
    (∀ v' F' H', Ext F H F' H' → R X.K cm F' v' d → Q v' H') → wpAny (model X.prog X.w) X.A (compareChain pos u ops (evalEach es X.env)) (EP X pins σ Q) X.xe s
  tst : ∀ (pos : Pos) (pins : List (Addr × Obj)) (s : Shared) (σ : L2.St) (F H : Hp) (ρ : Rho) (As : Nat → List Addr) (v : V) (u : Value) (x : Dat) (k : Bool) (Q : Bool → Hp → Prop), Inv X pins σ H s → Rel X.K cm F H σ ρ As → R X.K cm F v x → RelV v u → c x ρ = some (.bl k) →
    (∀ F' H', Ext F H F' H' → Q k H') → wpAny (model X.prog X.w) X.A (testChain pos u ops (evalEach es X.env)) (TP X pins σ Q) X.xe s
theorem ch_one {op : CmpOp} {r : R2} {g : Dat → Dat → Option Dat} (ho : OpR X (compareOp op) r) (hd : OpD X cm r g) (hb : PE X b (ofE X.K cm fb)) : PCh X cm [op] [b] (ch1 g fb) := by
  refine ⟨fun pos pins s σ F H ρ As v u x d Q I rel rx ru hf k => ?_, fun pos pins s σ F H ρ As v u x c Q I rel rx ru hf k => ?_⟩
  · obtain ⟨y, e1, hf⟩ := bind_some hf
    refine chain_last (thn (hb.run pins s σ H _ I ⟨F, ρ, As, y, rel, e1, fun v1 F1 H1 x1 r1 => ?_⟩) fun u1 s1 ⟨v1, H1, I1, t1, q1⟩ => ho pins s1 σ H1 v v1 u u1 Q I1 ru t1 q1)
    exact hd F1 H1 v v1 x y d Q x1.fh (rx.mono x1.f) r1 hf fun v2 F2 H2 x2 r2 => k v2 F2 H2 (x1.trans x2) r2
  · obtain ⟨y, e1, hf⟩ := bind_some hf
    refine test_last (thn (hb.run pins s σ H (fun v1 H1 => r v v1 H1 fun z H2 => z = .bl c ∧ Q c H2) I ⟨F, ρ, As, y, rel, e1, fun v1 F1 H1 x1 r1 => ?_⟩) fun u1 s1 ⟨v1, H1, I1, t1, q1⟩ => thn (ho pins s1 σ H1 v v1 u u1 _ I1 ru t1 q1) fun u2 s2 ⟨z, H2, I2, t2, ez, q2⟩ => ?_)
    · exact hd F1 H1 v v1 x y (.bl c) _ x1.fh (rx.mono x1.f) r1 hf fun v2 F2 H2 x2 r2 => ⟨r2.bl_inv, k F2 H2 (x1.trans x2)⟩
    · subst ez
      cases t2
      exact wpAny_truthy_bool ⟨H2, I2, q2⟩
theorem ch_cons {op op' : CmpOp} {ops : List CmpOp} {b' : Expr} {bs : List Expr} {c : Dat → Rho → Option Dat} {r : R2} {g : Dat → Dat → Option Dat} (ho : OpR X (compareOp op) r) (hd : OpD X cm r g) (hb : PE X b (ofE X.K cm fb)) (hc : PCh X cm (op' :: ops) (b' :: bs) c) : PCh X cm (op :: op' :: ops) (b :: b' :: bs) (chC g fb c) := by
  refine ⟨fun pos pins s σ F H ρ As v u x d Q I rel rx ru hf k => ?_, fun pos pins s σ F H ρ As v u x j Q I rel rx ru hf k => ?_⟩
  · obtain ⟨y, e1, hf⟩ := bind_some hf
    obtain ⟨z, e2, hf⟩ := bind_some hf
    refine chain_link (thn (hb.run pins s σ H (fun v1 H1 => r v v1 H1 fun w H2 => ∃ F1 F2, Ext F H F1 H1 ∧ R X.K cm F1 v1 y ∧ Ext F1 H1 F2 H2 ∧ R X.K cm F2 w z) I ⟨F, ρ, As, y, rel, e1, fun v1 F1 H1 x1 r1 => ?_⟩) fun u1 s1 ⟨v1, H1, I1, t1, q1⟩ => thn (ho pins s1 σ H1 v v1 u u1 _ I1 ru t1 q1) fun u2 s2 ⟨w, H2, I2, t2, F1, F2, x1, r1, x2, r2⟩ => ?_)
    · exact hd F1 H1 v v1 x y z _ x1.fh (rx.mono x1.f) r1 e2 fun v2 F2 H2 x2 r2 => ⟨F1, F2, x1, r1, x2, r2⟩
    · cases z with
      | bl k' =>
        have ew := r2.bl_inv
        subst ew
        cases t2
        refine wpAny_truthy_bool ?_
        cases k' with
        | true => exact ite_tt (hc.val pos pins s2 σ F2 H2 ρ As v1 u1 y d Q I2 ((rel.ext x1).ext x2) (r1.mono x2.f) t1 hf fun v3 F3 H3 x3 r3 => k v3 F3 H3 (x1.trans (x2.trans x3)) r3)
        | false =>
          cases hf
          exact ite_ff ⟨.bl false, H2, I2, rfl, k _ F2 H2 (x1.trans x2) (.bl false)⟩
      | _ => cases hf
  · obtain ⟨y, e1, hf⟩ := bind_some hf
    obtain ⟨z, e2, hf⟩ := bind_some hf
    refine test_link (thn (hb.run pins s σ H (fun v1 H1 => r v v1 H1 fun w H2 => ∃ F1 F2, Ext F H F1 H1 ∧ R X.K cm F1 v1 y ∧ Ext F1 H1 F2 H2 ∧ R X.K cm F2 w z) I ⟨F, ρ, As, y, rel, e1, fun v1 F1 H1 x1 r1 => ?_⟩) fun u1 s1 ⟨v1, H1, I1, t1, q1⟩ => thn (ho pins s1 σ H1 v v1 u u1 _ I1 ru t1 q1) fun u2 s2 ⟨w, H2, I2, t2, F1, F2, x1, r1, x2, r2⟩ => ?_)
    · exact hd F1 H1 v v1 x y z _ x1.fh (rx.mono x1.f) r1 e2 fun v2 F2 H2 x2 r2 => ⟨F1, F2, x1, r1, x2, r2⟩
    · cases z with
      | bl k' =>
        have ew := r2.bl_inv
        subst ew
        cases t2
        refine wpAny_truthy_bool ?_
        cases k' with
        | true => exact ite_tt (hc.tst pos pins s2 σ F2 H2 ρ As v1 u1 y j Q I2 ((rel.ext x1).ext x2) (r1.mono x2.f) t1 hf fun F3 H3 x3 => k F3 H3 (x1.trans (x2.trans x3)))
        | false =>
          cases hf
          exact ite_ff ⟨H2, I2, k F2 H2 (x1.trans x2)⟩
      | _ => cases hf
theorem e_chn {op op' : CmpOp} {ops : List CmpOp} {b b' : Expr} {bs : List Expr} {c : Dat → Rho → Option Dat} (ha : PE X a (ofE X.K cm fa)) (hc : PCh X cm (op :: op' :: ops) (b :: b' :: bs) c) (hm : lastMarks (op :: op' :: ops) (b :: b' :: bs) = false := by with_unfolding_all rfl) : PE X (.Compare a (op :: op' :: ops) (b :: b' :: bs) pos) (ofE X.K cm (chn fa c)) := by
  refine ⟨fun pins s σ H Q I ⟨F, ρ, As, d, rel, hf, k⟩ => ?_⟩
  obtain ⟨x, e1, hf⟩ := bind_some hf
  refine Compare_chain (thn (ha.run pins s σ H (fun v1 H1 => ∃ F1, Ext F H F1 H1 ∧ R X.K cm F1 v1 x) I ⟨F, ρ, As, x, rel, e1, fun v1 F1 H1 x1 r1 => ⟨F1, x1, r1⟩⟩) fun u1 s1 ⟨v1, H1, I1, t1, F1, x1, r1⟩ => ?_) hm
  exact hc.val pos pins s1 σ F1 H1 ρ As v1 u1 x d Q I1 (rel.ext x1) r1 t1 hf fun v2 F2 H2 x2 r2 => k v2 F2 H2 (x1.trans x2) r2
theorem t_chn {op op' : CmpOp} {ops : List CmpOp} {b b' : Expr} {bs : List Expr} {c : Dat → Rho → Option Dat} (ha : PE X a (ofE X.K cm fa)) (hc : PCh X cm (op :: op' :: ops) (b :: b' :: bs) c) (hm : lastMarks (op :: op' :: ops) (b :: b' :: bs) = false := by with_unfolding_all rfl) : PT X (.Compare a (op :: op' :: ops) (b :: b' :: bs) pos) (ofT X.K cm (tst (chn fa c))) := by
  refine ⟨fun pins s σ H Q I ⟨F, ρ, As, d, rel, hf, k⟩ => ?_⟩
  obtain ⟨x, e1, hf⟩ := bind_some (tst_some hf)
  refine isTrue_chain (thn (ha.run pins s σ H (fun v1 H1 => ∃ F1, Ext F H F1 H1 ∧ R X.K cm F1 v1 x) I ⟨F, ρ, As, x, rel, e1, fun v1 F1 H1 x1 r1 => ⟨F1, x1, r1⟩⟩) fun u1 s1 ⟨v1, H1, I1, t1, F1, x1, r1⟩ => ?_) hm
  exact hc.tst pos pins s1 σ F1 H1 ρ As v1 u1 x d Q I1 (rel.ext x1) r1 t1 hf fun F2 H2 x2 => k F2 H2 (x1.trans x2)
end
end
end Pq

namespace Pq
open PySem PySem.Spec PyProof.Rows L2
noncomputable section
section
variable {X : Cx} {cm : Str → Addr} {a b e : Expr} {es : List Expr} {fa fb : Rho → Option Dat} {pos : Pos}

/-! ### arguments -/
def consA (f : Rho → Option Dat) (g : Rho → Option (List Dat)) : Rho → Option (List Dat) := fun ρ => (f ρ).bind fun x => (g ρ).map fun xs => x :: xs
def nilA : Rho → Option (List Dat) := fun _ => some []
theorem a_nil : PA X [] (ofA X.K cm nilA) := PA.imp pa_nil fun σ H Q ⟨F, ρ, As, ds, rel, hf, k⟩ => by
  cases hf
  exact k [] F H (Ext.refl rel.fh) .nil
theorem map_some' {α β : Type} {x : Option α} {f : α → β} {y : β} (h : x.map f = some y) : ∃ z, x = some z ∧ f z = y := by
  cases x with
  | none => cases h
  | some z => exact ⟨z, rfl, Option.some.inj h⟩
theorem a_cons {fs : Rho → Option (List Dat)} (ha : PE X a (ofE X.K cm fa)) (hs : PA X es (ofA X.K cm fs)) (hst : starEach (a :: es) X.env = (false, eval a X.env) :: starEach es X.env := by rfl) : PA X (a :: es) (ofA X.K cm (consA fa fs)) := PA.imp (pa_cons ha hs hst) fun σ H Q ⟨F, ρ, As, ds, rel, hf, k⟩ => by
  obtain ⟨x, e1, hf⟩ := bind_some hf
  obtain ⟨xs, e2, rfl⟩ := map_some' hf
  exact ⟨F, ρ, As, x, rel, e1, fun v F1 H1 x1 r1 => ⟨F1, ρ, As, xs, rel.ext x1, e2, fun vs F2 H2 x2 r2 => k (v :: vs) F2 H2 (x1.trans x2) (.cons (r1.mono x2.f) r2)⟩⟩
/-- with what is one's own -/
def ofAO (K : PySem.W.Frag) (cm : Str → Addr) (f : Rho → Option (List SV)) : TA := fun σ H Q => ∃ F ρ As ds, Rel K cm F H σ ρ As ∧ f ρ = some ds ∧ ∀ vs F' H' A, Ext F H F' H' → ROs K cm F' H' vs ds A → A.Nodup → (∀ a ∈ A, H a = none) → Q vs H'
def consO (f : Rho → Option SV) (g : Rho → Option (List SV)) : Rho → Option (List SV) := fun ρ => (f ρ).bind fun x => (g ρ).map fun xs => x :: xs
def nilO : Rho → Option (List SV) := fun _ => some []
def froS (f : Rho → Option Dat) : Rho → Option SV := fun ρ => (f ρ).map SV.fro
def frzS (f : Rho → Option SV) : Rho → Option Dat := fun ρ => (f ρ).map frz
/-- settled data, taken as one's own -/
theorem o_e (h : PE X e (ofE X.K cm fa)) : PE X e (ofO X.K cm (froS fa)) := PE.imp h fun σ H Q ⟨F, ρ, As, sv, rel, hf, k⟩ => by
  obtain ⟨d, e1, rfl⟩ := map_some' hf
  exact ⟨F, ρ, As, d, rel, e1, fun v F1 H1 x1 r1 => k v F1 H1 [] x1 (.fro r1) .nil (by simp)⟩
/-- one's own, settled -/
theorem e_o {f : Rho → Option SV} (h : PE X e (ofO X.K cm f)) : PE X e (ofE X.K cm (frzS f)) := PE.imp h fun σ H Q ⟨F, ρ, As, d, rel, hf, k⟩ => by
  obtain ⟨sv, e1, rfl⟩ := map_some' hf
  refine ⟨F, ρ, As, sv, rel, e1, fun v F1 H1 A x1 r1 nd hA => ?_⟩
  refine k v (plus F1 H1 A) H1 ⟨x1.f.trans (plus_same fun a h => (r1.own a h).1), x1.h, plus_le x1.fh, fun a o h n => ?_⟩ (r1.frz x1.fh)
  by_cases q : a ∈ A
  · exact hA a q
  · rw [plus_out q] at h
    exact x1.new a o h n
theorem ao_nil : PA X [] (ofAO X.K cm nilO) := PA.imp pa_nil fun σ H Q ⟨F, ρ, As, ds, rel, hf, k⟩ => by
  cases hf
  exact k [] F H [] (Ext.refl rel.fh) .nil .nil (by simp)
theorem ao_cons {f : Rho → Option SV} {fs : Rho → Option (List SV)} (ha : PE X a (ofO X.K cm f)) (hs : PA X es (ofAO X.K cm fs)) (hst : starEach (a :: es) X.env = (false, eval a X.env) :: starEach es X.env := by rfl) : PA X (a :: es) (ofAO X.K cm (consO f fs)) := PA.imp (pa_cons ha hs hst) fun σ H Q ⟨F, ρ, As, ds, rel, hf, k⟩ => by
  obtain ⟨x, e1, hf⟩ := bind_some hf
  obtain ⟨xs, e2, rfl⟩ := map_some' hf
  refine ⟨F, ρ, As, x, rel, e1, fun v F1 H1 A x1 r1 nd1 n1 => ⟨F1, ρ, As, xs, rel.ext x1, e2, fun vs F2 H2 B x2 r2 nd2 n2 => k (v :: vs) F2 H2 (A ++ B) (x1.trans x2) (.cons (r1.ext x2) r2) ?_ fun a h => ?_⟩⟩
  · refine List.nodup_append.mpr ⟨nd1, nd2, fun a h1 b h2 z => ?_⟩
    subst z
    obtain ⟨_, o, q⟩ := r1.own a h1
    rw [n2 a h2] at q
    cases q
  · rcases List.mem_append.mp h with h | h
    · exact n1 a h
    · exact x1.h.free (n2 a h)

/-! ### displays -/
def lim (ds : List Dat) : Option (List Dat) := @ite _ (ds.length ≤ sizeLine) (Classical.propDecidable _) (some ds) none
def lstS (f : Rho → Option (List Dat)) : Rho → Option Dat := fun ρ => (f ρ).bind fun ds => @ite _ (ds.length ≤ sizeLine) (Classical.propDecidable _) (some (.lst ds)) none
def tupS (f : Rho → Option (List Dat)) : Rho → Option Dat := fun ρ => (f ρ).bind fun ds => @ite _ (ds.length ≤ sizeLine) (Classical.propDecidable _) (some (.tup ds)) none
def lstO (f : Rho → Option (List SV)) : Rho → Option SV := fun ρ => (f ρ).bind fun ds => @ite _ (ds.length ≤ sizeLine) (Classical.propDecidable _) (some (.ol ds)) none
def tupO (f : Rho → Option (List SV)) : Rho → Option SV := fun ρ => (f ρ).bind fun ds => @ite _ (ds.length ≤ sizeLine) (Classical.propDecidable _) (some (.tp ds)) none
theorem e_lst {fs : Rho → Option (List Dat)} (h : PA X es (ofA X.K cm fs)) : PE X (.List es pos) (ofE X.K cm (lstS fs)) := PE.imp (pe_lst h) fun σ H Q ⟨F, ρ, As, d, rel, hf, k⟩ => by
  obtain ⟨ds, e1, hf⟩ := bind_some hf
  obtain ⟨c, rfl⟩ := ite_some hf
  exact ⟨F, ρ, As, ds, rel, e1, fun vs F1 H1 x1 r1 => ⟨by rw [r1.length]; exact c, new_lst x1.fh r1 fun v F2 H2 x2 r2 => k v F2 H2 (x1.trans x2) r2⟩⟩
theorem e_tup {fs : Rho → Option (List Dat)} {x1 : Nat} (h : PA X es (ofA X.K cm fs)) : PE X (.Tuple es x1 pos) (ofE X.K cm (tupS fs)) := PE.imp (pe_tup h) fun σ H Q ⟨F, ρ, As, d, rel, hf, k⟩ => by
  obtain ⟨ds, e1, hf⟩ := bind_some hf
  obtain ⟨c, rfl⟩ := ite_some hf
  exact ⟨F, ρ, As, ds, rel, e1, fun vs F1 H1 x1 r1 => ⟨by rw [r1.length]; exact c, new_tup x1.fh r1 fun v F2 H2 x2 r2 => k v F2 H2 (x1.trans x2) r2⟩⟩
theorem ROs.length {K : PySem.W.Frag} {F H : Hp} : ∀ {vs : List V} {xs : List SV} {A : List Addr}, ROs K cm F H vs xs A → vs.length = xs.length
  | _, _, _, .nil => rfl
  | _, _, _, .cons _ t => by rw [List.length_cons, List.length_cons, ROs.length t]
theorem own_new {F H F1 H1 : Hp} {A : List Addr} (x1 : Ext F H F1 H1) (r : ∀ a ∈ A, F1 a = none ∧ ∃ o, H1 a = some o) (nd : A.Nodup) (n : ∀ a ∈ A, H a = none) {p : Addr} (hp : H1 p = none) : (p :: A).Nodup ∧ ∀ a ∈ p :: A, H a = none := by
  refine ⟨List.nodup_cons.mpr ⟨fun h => ?_, nd⟩, fun a h => ?_⟩
  · obtain ⟨_, o, q⟩ := r p h
    rw [hp] at q
    cases q
  · rcases List.mem_cons.mp h with rfl | h
    · exact x1.h.free hp
    · exact n a h
theorem o_lst {fs : Rho → Option (List SV)} (h : PA X es (ofAO X.K cm fs)) : PE X (.List es pos) (ofO X.K cm (lstO fs)) := PE.imp (pe_lst h) fun σ H Q ⟨F, ρ, As, d, rel, hf, k⟩ => by
  obtain ⟨ds, e1, hf⟩ := bind_some hf
  obtain ⟨c, rfl⟩ := ite_some hf
  refine ⟨F, ρ, As, ds, rel, e1, fun vs F1 H1 A x1 r1 nd n1 => ⟨by rw [r1.length]; exact c, fun p hp => ?_⟩⟩
  obtain ⟨nd', n'⟩ := own_new x1 r1.own nd n1 hp
  exact k _ F1 _ (p :: A) (x1.trans (Ext.open x1.fh hp)) (.ol (x1.fh.free hp) upd_same (r1.ext (Ext.open x1.fh hp))) nd' n'
theorem o_tup {fs : Rho → Option (List SV)} {x1 : Nat} (h : PA X es (ofAO X.K cm fs)) : PE X (.Tuple es x1 pos) (ofO X.K cm (tupO fs)) := PE.imp (pe_tup h) fun σ H Q ⟨F, ρ, As, d, rel, hf, k⟩ => by
  obtain ⟨ds, e1, hf⟩ := bind_some hf
  obtain ⟨c, rfl⟩ := ite_some hf
  refine ⟨F, ρ, As, ds, rel, e1, fun vs F1 H1 A x1 r1 nd n1 => ⟨by rw [r1.length]; exact c, fun p hp => ?_⟩⟩
  obtain ⟨nd', n'⟩ := own_new x1 r1.own nd n1 hp
  exact k _ F1 _ (p :: A) (x1.trans (Ext.open x1.fh hp)) (.tp (x1.fh.free hp) upd_same (r1.ext (Ext.open x1.fh hp))) nd' n'

/-! ### calls of built-ins -/
def app (g : List Dat → Option Dat) (f : Rho → Option (List Dat)) : Rho → Option Dat := fun ρ => (f ρ).bind g
def appO (g : List Dat → Option SV) (f : Rho → Option (List Dat)) : Rho → Option SV := fun ρ => (f ρ).bind g
def ClD (X : Cx) (cm : Str → Addr) (r : List V → Hp → VK → Prop) (g : List Dat → Option Dat) : Prop := ∀ F H vs ds d (Q : VK), Same F H → Rs X.K cm F vs ds → g ds = some d → (∀ v F' H', Ext F H F' H' → R X.K cm F' v d → Q v H') → r vs H Q
def ClO (X : Cx) (cm : Str → Addr) (r : List V → Hp → VK → Prop) (g : List Dat → Option SV) : Prop := ∀ F H vs ds sv (Q : VK), Same F H → Rs X.K cm F vs ds → g ds = some sv → (∀ v F' H' A, Ext F H F' H' → RO X.K cm F' H' v sv A → A.Nodup → (∀ a ∈ A, H a = none) → Q v H') → r vs H Q
theorem app_of {r : List V → Hp → VK → Prop} {g : List Dat → Option Dat} {fs : Rho → Option (List Dat)} (hd : ClD X cm r g) : ∀ σ H Q, ofE X.K cm (app g fs) σ H Q → tCB r (ofA X.K cm fs) σ H Q := fun σ H Q ⟨F, ρ, As, d, rel, hf, k⟩ => by
  obtain ⟨ds, e1, hf⟩ := bind_some hf
  exact ⟨F, ρ, As, ds, rel, e1, fun vs F1 H1 x1 r1 => hd F1 H1 vs ds d Q x1.fh r1 hf fun v F2 H2 x2 r2 => k v F2 H2 (x1.trans x2) r2⟩
theorem appO_of {r : List V → Hp → VK → Prop} {g : List Dat → Option SV} {fs : Rho → Option (List Dat)} (hd : ClO X cm r g) : ∀ σ H Q, ofO X.K cm (appO g fs) σ H Q → tCB r (ofA X.K cm fs) σ H Q := fun σ H Q ⟨F, ρ, As, d, rel, hf, k⟩ => by
  obtain ⟨ds, e1, hf⟩ := bind_some hf
  exact ⟨F, ρ, As, ds, rel, e1, fun vs F1 H1 x1 r1 => hd F1 H1 vs ds d Q x1.fh r1 hf fun v F2 H2 A x2 r2 nd n => k v F2 H2 A (x1.trans x2) r2 nd fun a h => x1.h.free (n a h)⟩
variable {x : Str} {p : Pos} {id T : String} {r : List V → Hp → VK → Prop} {g : List Dat → Option Dat} {gO : List Dat → Option SV} {fs : Rho → Option (List Dat)}
theorem e_callB (hc : CallR X (.builtin id) r) (hd : ClD X cm r g) (hg : Gl X x) (hm : X.mg x = none) (hv : bootBuiltins x = some (.builtin id)) (ha : PA X (e :: es) (ofA X.K cm fs)) (hn : x ≠ "__name__" := by decide) (hdb : (x == ("__debug__" : Str)) = false := by decide)
    (he : starEach (e :: es) X.env = (false, eval e X.env) :: starEach es X.env := by rfl) (hpl : (backTo pos (starEach es X.env)).any (·.1) = false := by rfl) : PE X (.Call (.Name x p) (e :: es) [] pos) (ofE X.K cm (app g fs)) := PE.imp (pe_callB hc hg hm hv ha hn hdb he hpl) (app_of hd)
theorem e_callT (hc : CallR X (.type T) r) (hd : ClD X cm r g) (hg : Gl X x) (hm : X.mg x = none) (hv : bootBuiltins x = some (.type T)) (ha : PA X (e :: es) (ofA X.K cm fs)) (hn : x ≠ "__name__" := by decide) (hdb : (x == ("__debug__" : Str)) = false := by decide)
    (he : starEach (e :: es) X.env = (false, eval e X.env) :: starEach es X.env := by rfl) (hpl : (backTo pos (starEach es X.env)).any (·.1) = false := by rfl) : PE X (.Call (.Name x p) (e :: es) [] pos) (ofE X.K cm (app g fs)) := PE.imp (pe_callTy hc hg hm hv ha hn hdb he hpl) (app_of hd)
theorem o_callT (hc : CallR X (.type T) r) (hd : ClO X cm r gO) (hg : Gl X x) (hm : X.mg x = none) (hv : bootBuiltins x = some (.type T)) (ha : PA X (e :: es) (ofA X.K cm fs)) (hn : x ≠ "__name__" := by decide) (hdb : (x == ("__debug__" : Str)) = false := by decide)
    (he : starEach (e :: es) X.env = (false, eval e X.env) :: starEach es X.env := by rfl) (hpl : (backTo pos (starEach es X.env)).any (·.1) = false := by rfl) : PE X (.Call (.Name x p) (e :: es) [] pos) (ofO X.K cm (appO gO fs)) := PE.imp (pe_callTy hc hg hm hv ha hn hdb he hpl) (appO_of hd)
theorem Rs.one {K : PySem.W.Frag} {F : Hp} {vs : List V} {d : Dat} (h : Rs K cm F vs [d]) : ∃ v, vs = [v] ∧ R K cm F v d := by
  cases h with
  | cons r t => cases t; exact ⟨_, rfl, r⟩
theorem Rs.two {K : PySem.W.Frag} {F : Hp} {vs : List V} {d d' : Dat} (h : Rs K cm F vs [d, d']) : ∃ v v', vs = [v, v'] ∧ R K cm F v d ∧ R K cm F v' d' := by
  cases h with
  | cons r t =>
    obtain ⟨v', rfl, r'⟩ := t.one
    exact ⟨_, v', rfl, r, r'⟩
theorem R.scr_inv {K : PySem.W.Frag} {F : Hp} {v : V} {ds : List Dat} (h : R K cm F v (.scr ds)) : ∃ a vs, v = .ref a ∧ SqL K F a vs ∧ Rs K cm F vs ds := by
  cases h with
  | scr h r => exact ⟨_, _, rfl, h, r⟩
theorem R.dct_inv {K : PySem.W.Frag} {F : Hp} {v : V} {ks : List Key} {ds : List Dat} (h : R K cm F v (.dct ks ds)) : ∃ a kvs, v = .ref a ∧ Rd F a (.dK kvs) ∧ kvs.map (·.1) = ks ∧ Rs K cm F (kvs.map (·.2)) ds := by
  cases h with
  | dct h k r => exact ⟨_, _, rfl, h, k, r⟩
/-! len -/
def rLenA (K : PySem.W.Frag) : List V → Hp → VK → Prop := fun xs H Q => (∃ p ys, xs = [V.ref p] ∧ (SqL K H p ys ∨ SqT K H p ys) ∧ Q (.int ys.length) H) ∨ ((∃ z, xs = [V.str z] ∧ z.length ≤ sizeLine ∧ Q (.int z.length) H) ∨ ∃ q kvs, xs = [V.ref q] ∧ Rd H q (.dK kvs) ∧ Q (.int kvs.length) H)
theorem call_lenDR : CallR X (.builtin "len") (fun xs H Q => ∃ q kvs, xs = [V.ref q] ∧ Rd H q (.dK kvs) ∧ Q (.int kvs.length) H) := by
  intro pins s σ H xs us Q I rv ⟨q, kvs, ex, h, k⟩
  subst ex
  obtain ⟨u, rfl, ru⟩ := vals1 rv
  cases ru
  exact d_len I h fun t s' I' => ⟨.int _, H, I', ⟨_, rfl⟩, k⟩
theorem call_lenA : CallR X (.builtin "len") (rLenA X.K) := call_len_seq.or (call_len_str.or call_lenDR)
def lenD : List Dat → Option Dat
  | [.lst xs] => some (.int xs.length)
  | [.tup xs] => some (.int xs.length)
  | [.scr xs] => some (.int xs.length)
  | [.dct ks _] => some (.int ks.length)
  | [.str z] => @ite _ (z.length ≤ sizeLine) (Classical.propDecidable _) (some (.int z.length)) none
  | _ => none
theorem cd_len : ClD X cm (rLenA X.K) lenD := fun F H vs ds d Q e rs hg k => by
  unfold lenD at hg
  split at hg
  · cases hg
    obtain ⟨v, rfl, r⟩ := rs.one
    obtain ⟨a, ws, rfl, h, q⟩ := r.lst_inv
    exact .inl ⟨a, ws, rfl, .inl (.inl (same_rd e h)), by rw [q.length]; exact k _ F H (Ext.refl e) (.int _)⟩
  · cases hg
    obtain ⟨v, rfl, r⟩ := rs.one
    obtain ⟨a, ws, rfl, h, q⟩ := r.tup_inv
    exact .inl ⟨a, ws, rfl, .inr (same_sqT e h), by rw [q.length]; exact k _ F H (Ext.refl e) (.int _)⟩
  · cases hg
    obtain ⟨v, rfl, r⟩ := rs.one
    obtain ⟨a, ws, rfl, h, q⟩ := r.scr_inv
    exact .inl ⟨a, ws, rfl, .inl (e.seq h), by rw [q.length]; exact k _ F H (Ext.refl e) (.int _)⟩
  · cases hg
    obtain ⟨v, rfl, r⟩ := rs.one
    obtain ⟨a, kvs, rfl, h, q, _⟩ := r.dct_inv
    refine .inr (.inr ⟨a, kvs, rfl, same_rd e h, ?_⟩)
    rw [← q, List.length_map] at k
    exact k _ F H (Ext.refl e) (.int _)
  · obtain ⟨c, rfl⟩ := ite_some hg
    obtain ⟨v, rfl, r⟩ := rs.one
    exact .inr (.inl ⟨_, by rw [r.str_inv], c, k _ F H (Ext.refl e) (.int _)⟩)
  · cases hg
theorem e_len (hg : Gl X "len") (hm : X.mg "len" = none) (ha : PA X (e :: es) (ofA X.K cm fs)) (he : starEach (e :: es) X.env = (false, eval e X.env) :: starEach es X.env := by rfl) (hpl : (backTo pos (starEach es X.env)).any (·.1) = false := by rfl) :
    PE X (.Call (.Name "len" p) (e :: es) [] pos) (ofE X.K cm (app lenD fs)) := e_callB call_lenA cd_len hg hm PySem.boot_len ha (by decide) (by decide) he hpl
/-! min, max of two ints -/
def minD : List Dat → Option Dat
  | [.int i, .int j] => some (.int (if j < i then j else i))
  | _ => none
def maxD : List Dat → Option Dat
  | [.int i, .int j] => some (.int (if j > i then j else i))
  | _ => none
theorem cd_min : ClD X cm (fun xs H Q => ∃ i j, xs = [.int i, .int j] ∧ Q (.int (if j < i then j else i)) H) minD := fun F H vs ds d Q e rs hg k => by
  unfold minD at hg
  split at hg
  · cases hg
    obtain ⟨v, v', rfl, r, r'⟩ := rs.two
    exact ⟨_, _, by rw [r.int_inv, r'.int_inv], k _ F H (Ext.refl e) (.int _)⟩
  · cases hg
theorem cd_max : ClD X cm (fun xs H Q => ∃ i j, xs = [.int i, .int j] ∧ Q (.int (if j > i then j else i)) H) maxD := fun F H vs ds d Q e rs hg k => by
  unfold maxD at hg
  split at hg
  · cases hg
    obtain ⟨v, v', rfl, r, r'⟩ := rs.two
    exact ⟨_, _, by rw [r.int_inv, r'.int_inv], k _ F H (Ext.refl e) (.int _)⟩
  · cases hg
theorem e_min (hc : X.calm = true) (hg : Gl X "min") (hm : X.mg "min" = none) (ha : PA X (e :: es) (ofA X.K cm fs)) (he : starEach (e :: es) X.env = (false, eval e X.env) :: starEach es X.env := by rfl) (hpl : (backTo pos (starEach es X.env)).any (·.1) = false := by rfl) :
    PE X (.Call (.Name "min" p) (e :: es) [] pos) (ofE X.K cm (app minD fs)) := e_callB (call_min2 hc) cd_min hg hm (by decide +kernel) ha (by decide) (by decide) he hpl
theorem e_max (hc : X.calm = true) (hg : Gl X "max") (hm : X.mg "max" = none) (ha : PA X (e :: es) (ofA X.K cm fs)) (he : starEach (e :: es) X.env = (false, eval e X.env) :: starEach es X.env := by rfl) (hpl : (backTo pos (starEach es X.env)).any (·.1) = false := by rfl) :
    PE X (.Call (.Name "max" p) (e :: es) [] pos) (ofE X.K cm (app maxD fs)) := e_callB (call_max2 hc) cd_max hg hm (by decide +kernel) ha (by decide) (by decide) he hpl
/-! list(x) of a list, of a tuple; tuple(list); str(int); int(truth) -/
def rListA (K : PySem.W.Frag) : List V → Hp → VK → Prop := fun xs H Q => ∃ p ys, xs = [.ref p] ∧ (SqL K H p ys ∨ SqT K H p ys) ∧ ∀ l, H l = none → Q (.ref l) (upd H l (.lst ys))
def listD : List Dat → Option Dat
  | [.lst xs] => some (.lst xs)
  | [.scr xs] => some (.lst xs)
  | [.tup xs] => some (.lst xs)
  | _ => none
def listO : List Dat → Option SV
  | [.lst xs] => some (.ol (xs.map SV.fro))
  | [.tup xs] => some (.ol (xs.map SV.fro))
  | _ => none
theorem cd_list : ClD X cm (rListA X.K) listD := fun F H vs ds d Q e rs hg k => by
  unfold listD at hg
  split at hg
  · cases hg
    obtain ⟨v, rfl, r⟩ := rs.one
    obtain ⟨a, ws, rfl, h, q⟩ := r.lst_inv
    exact ⟨a, ws, rfl, .inl (.inl (same_rd e h)), new_lst e q k⟩
  · cases hg
    obtain ⟨v, rfl, r⟩ := rs.one
    obtain ⟨a, ws, rfl, h, q⟩ := r.scr_inv
    exact ⟨a, ws, rfl, .inl (e.seq h), new_lst e q k⟩
  · cases hg
    obtain ⟨v, rfl, r⟩ := rs.one
    obtain ⟨a, ws, rfl, h, q⟩ := r.tup_inv
    exact ⟨a, ws, rfl, .inr (same_sqT e h), new_lst e q k⟩
  · cases hg
theorem co_list : ClO X cm (rListA X.K) listO := fun F H vs ds d Q e rs hg k => by
  unfold listO at hg
  split at hg
  · cases hg
    obtain ⟨v, rfl, r⟩ := rs.one
    obtain ⟨a, ws, rfl, h, q⟩ := r.lst_inv
    exact ⟨a, ws, rfl, .inl (.inl (same_rd e h)), own_lst e q k⟩
  · cases hg
    obtain ⟨v, rfl, r⟩ := rs.one
    obtain ⟨a, ws, rfl, h, q⟩ := r.tup_inv
    exact ⟨a, ws, rfl, .inr (same_sqT e h), own_lst e q k⟩
  · cases hg
theorem e_list (hg : Gl X "list") (hm : X.mg "list" = none) (ha : PA X (e :: es) (ofA X.K cm fs)) (he : starEach (e :: es) X.env = (false, eval e X.env) :: starEach es X.env := by rfl) (hpl : (backTo pos (starEach es X.env)).any (·.1) = false := by rfl) :
    PE X (.Call (.Name "list" p) (e :: es) [] pos) (ofE X.K cm (app listD fs)) := e_callT call_list_of cd_list hg hm (by decide +kernel) ha (by decide) (by decide) he hpl
theorem o_list (hg : Gl X "list") (hm : X.mg "list" = none) (ha : PA X (e :: es) (ofA X.K cm fs)) (he : starEach (e :: es) X.env = (false, eval e X.env) :: starEach es X.env := by rfl) (hpl : (backTo pos (starEach es X.env)).any (·.1) = false := by rfl) :
    PE X (.Call (.Name "list" p) (e :: es) [] pos) (ofO X.K cm (appO listO fs)) := o_callT call_list_of co_list hg hm (by decide +kernel) ha (by decide) (by decide) he hpl
def tupleD : List Dat → Option Dat
  | [.lst xs] => some (.tup xs)
  | [.tup xs] => some (.tup xs)
  | _ => none
theorem cd_tuple : ClD X cm (fun xs H Q => ∃ p ys, xs = [.ref p] ∧ ((SqL X.K H p ys ∧ ∀ l, H l = none → Q (.ref l) (upd H l (.tup ys))) ∨ (SqT X.K H p ys ∧ Q (.ref p) H))) tupleD := fun F H vs ds d Q e rs hg k => by
  unfold tupleD at hg
  split at hg
  · cases hg
    obtain ⟨v, rfl, r⟩ := rs.one
    obtain ⟨a, ws, rfl, h, q⟩ := r.lst_inv
    exact ⟨a, ws, rfl, .inl ⟨.inl (same_rd e h), new_tup e q k⟩⟩
  · cases hg
    obtain ⟨v, rfl, r⟩ := rs.one
    obtain ⟨a, ws, rfl, h, q⟩ := r.tup_inv
    exact ⟨a, ws, rfl, .inr ⟨same_sqT e h, k _ F H (Ext.refl e) (.tup h q)⟩⟩
  · cases hg
theorem e_tuple (hg : Gl X "tuple") (hm : X.mg "tuple" = none) (ha : PA X (e :: es) (ofA X.K cm fs)) (he : starEach (e :: es) X.env = (false, eval e X.env) :: starEach es X.env := by rfl) (hpl : (backTo pos (starEach es X.env)).any (·.1) = false := by rfl) :
    PE X (.Call (.Name "tuple" p) (e :: es) [] pos) (ofE X.K cm (app tupleD fs)) := e_callT call_tuple_of cd_tuple hg hm (by decide +kernel) ha (by decide) (by decide) he hpl
def strD : List Dat → Option Dat
  | [.int i] => @ite _ (i.natAbs.log2 < 1920) (Classical.propDecidable _) (some (.str (toString i))) none
  | _ => none
theorem cd_str : ClD X cm (fun xs H Q => ∃ i, xs = [.int i] ∧ i.natAbs.log2 < 1920 ∧ Q (.str (toString i)) H) strD := fun F H vs ds d Q e rs hg k => by
  unfold strD at hg
  split at hg
  · obtain ⟨c, rfl⟩ := ite_some hg
    obtain ⟨v, rfl, r⟩ := rs.one
    exact ⟨_, by rw [r.int_inv], c, k _ F H (Ext.refl e) (.str _)⟩
  · cases hg
theorem e_strI (hg : Gl X "str") (hm : X.mg "str" = none) (ha : PA X (e :: es) (ofA X.K cm fs)) (he : starEach (e :: es) X.env = (false, eval e X.env) :: starEach es X.env := by rfl) (hpl : (backTo pos (starEach es X.env)).any (·.1) = false := by rfl) :
    PE X (.Call (.Name "str" p) (e :: es) [] pos) (ofE X.K cm (app strD fs)) := e_callT call_str_int cd_str hg hm (by decide +kernel) ha (by decide) (by decide) he hpl
def rIntA : List V → Hp → VK → Prop := fun xs H Q => ((∃ i, xs = [V.int i] ∧ Q (.int i) H) ∨ ∃ k, xs = [V.bl k] ∧ Q (.int (if k then 1 else 0)) H) ∨ ∃ a n, xs = [V.str a] ∧ PySem.intText? a = some n ∧ a.length ≤ 640 ∧ Q (.int n) H
theorem call_intA : CallR X (.type "int") rIntA := call_int1.or call_int_str
def intD : List Dat → Option Dat
  | [.int i] => some (.int i)
  | [.bl k] => some (.int (if k then 1 else 0))
  | [.str z] => @ite _ (z.length ≤ 640) (Classical.propDecidable _) ((PySem.intText? z).map Dat.int) none
  | _ => none
theorem cd_int : ClD X cm rIntA intD := fun F H vs ds d Q e rs hg k => by
  unfold intD at hg
  split at hg
  · cases hg
    obtain ⟨v, rfl, r⟩ := rs.one
    exact .inl (.inl ⟨_, by rw [r.int_inv], k _ F H (Ext.refl e) (.int _)⟩)
  · cases hg
    obtain ⟨v, rfl, r⟩ := rs.one
    exact .inl (.inr ⟨_, by rw [r.bl_inv], k _ F H (Ext.refl e) (.int _)⟩)
  · split at hg
    · rename_i c
      obtain ⟨n, e1, rfl⟩ := map_some' hg
      obtain ⟨v, rfl, r⟩ := rs.one
      exact .inr ⟨_, n, by rw [r.str_inv], e1, c, k _ F H (Ext.refl e) (.int _)⟩
    · cases hg
  · cases hg
theorem e_intC (hg : Gl X "int") (hm : X.mg "int" = none) (ha : PA X (e :: es) (ofA X.K cm fs)) (he : starEach (e :: es) X.env = (false, eval e X.env) :: starEach es X.env := by rfl) (hpl : (backTo pos (starEach es X.env)).any (·.1) = false := by rfl) :
    PE X (.Call (.Name "int" p) (e :: es) [] pos) (ofE X.K cm (app intD fs)) := e_callT call_intA cd_int hg hm (by decide +kernel) ha (by decide) (by decide) he hpl
end
end
end Pq

namespace Pq
open PySem PySem.Spec PyProof.Rows L2
noncomputable section
section
variable {X : Cx} {cm : Str → Addr} {a b e : Expr} {es : List Expr} {fa fb : Rho → Option Dat} {pos : Pos}

/-! ### a[i], a[i:j], a[::-1] -/
def ixD : Dat → Dat → Option Dat
  | .lst xs, .int i => atI xs i
  | .scr xs, .int i => atI xs i
  | .tup xs, .int i => atI xs i
  | .str z, .int i => @ite _ (z.length ≤ sizeLine) (Classical.propDecidable _) ((atI z.cps.toList i).map fun c => .str ⟨#[c]⟩) none
  | _, _ => none
theorem Rs.atI {K : PySem.W.Frag} {F : Hp} {vs : List V} {xs : List Dat} {i : Int} {x : Dat} (r : Rs K cm F vs xs) (h : L2.atI xs i = some x) : ∃ v, L2.atI vs i = some v ∧ R K cm F v x := by
  unfold L2.atI at h ⊢
  obtain ⟨j, e1, e2⟩ := bind_some h
  obtain ⟨v, h1, h2⟩ := r.get e2
  exact ⟨v, by rw [r.length, e1]; exact h1, h2⟩
theorem od_ix : OpD X cm (rIx X.K) ixD := fun F H x y a b d Q e r1 r2 hg k => by
  unfold ixD at hg
  split at hg
  · obtain ⟨p, vs, rfl, h, q⟩ := r1.lst_inv
    obtain ⟨v, h1, h2⟩ := q.atI hg
    exact .inl ⟨p, vs, _, v, rfl, r2.int_inv, .inl (same_rd e h), h1, k v F H (Ext.refl e) h2⟩
  · obtain ⟨p, vs, rfl, h, q⟩ := r1.scr_inv
    obtain ⟨v, h1, h2⟩ := q.atI hg
    exact .inl ⟨p, vs, _, v, rfl, r2.int_inv, e.seq h, h1, k v F H (Ext.refl e) h2⟩
  · obtain ⟨p, vs, rfl, h, q⟩ := r1.tup_inv
    obtain ⟨v, h1, h2⟩ := q.atI hg
    exact .inr (.inl ⟨p, vs, _, v, rfl, r2.int_inv, same_sqT e h, h1, k v F H (Ext.refl e) h2⟩)
  · split at hg
    · rename_i c
      obtain ⟨z, e1, rfl⟩ := map_some' hg
      exact .inr (.inr ⟨_, _, z, r1.str_inv, r2.int_inv, c, e1, k _ F H (Ext.refl e) (.str _)⟩)
    · cases hg
  · cases hg
theorem e_ix (ha : PE X a (ofE X.K cm fa)) (hb : PE X b (ofE X.K cm fb)) (hs : PlainIx b := by exact fun _ _ => rfl) : PE X (.Subscript a b pos) (ofE X.K cm (bin ixD fa fb)) := PE.imp (pe_ix ix_seq ha hb hs) (bin_of od_ix)
def ofP (K : PySem.W.Frag) (cm : Str → Addr) (f : Rho → Option (Option Int)) : TO := fun σ H Q => ∃ F ρ As d, Rel K cm F H σ ρ As ∧ f ρ = some d ∧ ∀ F' H', Ext F H F' H' → Q d H'
theorem PO.imp {e : Option Expr} {t t' : TO} (h : PO X e t) (i : ∀ σ H Q, t' σ H Q → t σ H Q) : PO X e t' := ⟨fun pins s σ H Q I q => h.run pins s σ H Q I (i σ H Q q)⟩
def noP : Rho → Option (Option Int) := fun _ => some none
def prt (f : Rho → Option Dat) : Rho → Option (Option Int) := fun ρ => (f ρ).bind fun
  | .int i => some (some i)
  | _ => none
theorem p_no : PO X none (ofP X.K cm noP) := PO.imp po_none fun σ H Q ⟨F, ρ, As, d, rel, hf, k⟩ => by
  cases hf
  exact k F H (Ext.refl rel.fh)
theorem p_e (h : PE X e (ofE X.K cm fa)) : PO X (some e) (ofP X.K cm (prt fa)) := PO.imp (po_some h) fun σ H Q ⟨F, ρ, As, d, rel, hf, k⟩ => by
  obtain ⟨x, e1, hf⟩ := bind_some hf
  cases x with
  | int i =>
    cases hf
    exact ⟨F, ρ, As, .int i, rel, e1, fun v F1 H1 x1 r1 => ⟨i, r1.int_inv, k F1 H1 x1⟩⟩
  | _ => cases hf
def cut (xs : List Dat) (lo hi : Option Int) : List Dat := (xs.drop (HT.sIx xs.length 0 lo)).take (HT.sIx xs.length xs.length hi - HT.sIx xs.length 0 lo)
def slD (d : Dat) (lo hi : Option Int) : Option Dat := match d with
  | .lst xs => some (.lst (cut xs lo hi))
  | .scr xs => some (.lst (cut xs lo hi))
  | .tup xs => @ite _ (¬ (HT.sIx xs.length 0 lo = 0 ∧ HT.sIx xs.length xs.length hi = xs.length)) (Classical.propDecidable _) (some (.tup (cut xs lo hi))) none
  | .str z => @ite _ (z.length ≤ sizeLine) (Classical.propDecidable _) (some (.str (cutS z lo hi))) none
  | _ => none
def slS (f : Rho → Option Dat) (l h : Rho → Option (Option Int)) : Rho → Option Dat := fun ρ => (f ρ).bind fun x => (l ρ).bind fun lo => (h ρ).bind fun hi => slD x lo hi
theorem Rs.cut {K : PySem.W.Frag} {F : Hp} {vs : List V} {xs : List Dat} (r : Rs K cm F vs xs) (lo hi : Option Int) : Rs K cm F (cutV vs lo hi) (Pq.cut xs lo hi) := by
  unfold cutV Pq.cut
  rw [r.length]
  exact (r.drop _).take _
def rSlA (K : PySem.W.Frag) : V → Option Int → Option Int → Hp → VK → Prop := fun x lo hi H Q => rSlL K x lo hi H Q ∨ (rSlT K x lo hi H Q ∨ rSlS x lo hi H Q)
theorem sl_A : SlR X (rSlA X.K) := sl_list.or (sl_tup.or sl_str)
theorem e_sl {lo hi : Option Expr} {fl fh : Rho → Option (Option Int)} {p2 : Pos} (ha : PE X a (ofE X.K cm fa)) (hl : PO X lo (ofP X.K cm fl)) (hh : PO X hi (ofP X.K cm fh)) : PE X (.Subscript a (.Slice lo hi none p2) pos) (ofE X.K cm (slS fa fl fh)) := PE.imp (pe_slice sl_A ha hl hh) fun σ H Q ⟨F, ρ, As, d, rel, hf, k⟩ => by
  obtain ⟨x, e1, hf⟩ := bind_some hf
  obtain ⟨l, e2, hf⟩ := bind_some hf
  obtain ⟨h, e3, hf⟩ := bind_some hf
  refine ⟨F, ρ, As, x, rel, e1, fun v F1 H1 x1 r1 => ⟨F1, ρ, As, l, rel.ext x1, e2, fun F2 H2 x2 => ⟨F2, ρ, As, h, (rel.ext x1).ext x2, e3, fun F3 H3 x3 => ?_⟩⟩⟩
  have x123 := x1.trans (x2.trans x3)
  unfold slD at hf
  split at hf
  · cases hf
    obtain ⟨p, vs, rfl, g, q⟩ := r1.lst_inv
    exact .inl ⟨p, vs, rfl, .inl (same_rd (x2.f.trans (x3.f.trans x3.fh)) g), new_lst x3.fh ((q.cut l h).mono (x2.f.trans x3.f)) fun v F4 H4 x4 r4 => k v F4 H4 (x123.trans x4) r4⟩
  · cases hf
    obtain ⟨p, vs, rfl, g, q⟩ := r1.scr_inv
    exact .inl ⟨p, vs, rfl, (x2.f.trans (x3.f.trans x3.fh)).seq g, new_lst x3.fh ((q.cut l h).mono (x2.f.trans x3.f)) fun v F4 H4 x4 r4 => k v F4 H4 (x123.trans x4) r4⟩
  · obtain ⟨c, rfl⟩ := ite_some hf
    obtain ⟨p, vs, rfl, g, q⟩ := r1.tup_inv
    exact .inr (.inl ⟨p, vs, rfl, same_sqT (x2.f.trans (x3.f.trans x3.fh)) g, by rw [q.length]; exact c, new_tup x3.fh ((q.cut l h).mono (x2.f.trans x3.f)) fun v F4 H4 x4 r4 => k v F4 H4 (x123.trans x4) r4⟩)
  · obtain ⟨c, rfl⟩ := ite_some hf
    exact .inr (.inr ⟨_, r1.str_inv, c, k _ F3 H3 x123 (.str _)⟩)
  · cases hf
/-- .. a new list of one's own -/
def slO (f : Rho → Option Dat) (l h : Rho → Option (Option Int)) : Rho → Option SV := fun ρ => (f ρ).bind fun x => (l ρ).bind fun lo => (h ρ).bind fun hi => match x with
  | .lst xs => some (.ol ((cut xs lo hi).map SV.fro))
  | _ => none
theorem o_sl {lo hi : Option Expr} {fl fh : Rho → Option (Option Int)} {p2 : Pos} (ha : PE X a (ofE X.K cm fa)) (hl : PO X lo (ofP X.K cm fl)) (hh : PO X hi (ofP X.K cm fh)) : PE X (.Subscript a (.Slice lo hi none p2) pos) (ofO X.K cm (slO fa fl fh)) := PE.imp (pe_slice sl_list ha hl hh) fun σ H Q ⟨F, ρ, As, d, rel, hf, k⟩ => by
  obtain ⟨x, e1, hf⟩ := bind_some hf
  obtain ⟨l, e2, hf⟩ := bind_some hf
  obtain ⟨h, e3, hf⟩ := bind_some hf
  refine ⟨F, ρ, As, x, rel, e1, fun v F1 H1 x1 r1 => ⟨F1, ρ, As, l, rel.ext x1, e2, fun F2 H2 x2 => ⟨F2, ρ, As, h, (rel.ext x1).ext x2, e3, fun F3 H3 x3 => ?_⟩⟩⟩
  have x123 := x1.trans (x2.trans x3)
  split at hf
  · cases hf
    obtain ⟨p, vs, rfl, g, q⟩ := r1.lst_inv
    exact ⟨p, vs, rfl, .inl (same_rd (x2.f.trans (x3.f.trans x3.fh)) g), own_lst x3.fh ((q.cut l h).mono (x2.f.trans x3.f)) fun v F4 H4 A x4 r4 nd n => k v F4 H4 A (x123.trans x4) r4 nd fun a z => x123.h.free (n a z)⟩
  · cases hf
def revD : Dat → Option Dat
  | .lst xs => some (.lst xs.reverse)
  | _ => none
theorem e_rev {k : Nat} {p1 p2 p3 : Pos} (ha : PE X a (ofE X.K cm fa)) : PE X (.Subscript a (.Slice none none (some (.UnaryOp .USub (.Constant (.int 1) k p1) p2)) p3) pos) (ofE X.K cm (un revD fa)) := PE.imp (pe_revL ha) fun σ H Q ⟨F, ρ, As, d, rel, hf, k⟩ => by
  obtain ⟨x, e1, hf⟩ := bind_some hf
  refine ⟨F, ρ, As, x, rel, e1, fun v F1 H1 x1 r1 => ?_⟩
  unfold revD at hf
  split at hf
  · cases hf
    obtain ⟨p, vs, rfl, g, q⟩ := r1.lst_inv
    exact ⟨p, vs, rfl, .inl (same_rd x1.fh g), new_lst x1.fh q.reverse fun v F4 H4 x4 r4 => k v F4 H4 (x1.trans x4) r4⟩
  · cases hf

/-! ### in, not in -/
def flat : Dat → Bool
  | .non => true | .bl _ => true | .int _ => true | .str _ => true
  | _ => false
theorem flat_V {K : PySem.W.Frag} {F : Hp} {v : V} {d : Dat} (h : R K cm F v d) (f : flat d = true) : flatV v = true := by
  cases h <;> first | rfl | cases f
theorem flats_V {K : PySem.W.Frag} {F : Hp} : ∀ {vs : List V} {xs : List Dat}, Rs K cm F vs xs → xs.all flat = true → vs.all flatV = true
  | _, _, .nil, _ => rfl
  | _, _, .cons r t, h => by
    rw [List.all_cons, Bool.and_eq_true] at h ⊢
    exact ⟨flat_V r h.1, flats_V t h.2⟩
theorem eqV_eqb {K : PySem.W.Frag} {F : Hp} {v w : V} {d c : Dat} (h : R K cm F v d) (h' : R K cm F w c) (f : flat d = true) (f' : flat c = true) : eqV v w = eqb d c := by
  cases h <;> first | (cases f; done) | (cases h' <;> first | (cases f'; done) | simp [eqV, eqb])
theorem inV_any {K : PySem.W.Frag} {F : Hp} {v : V} {d : Dat} (h : R K cm F v d) (f : flat d = true) : ∀ {vs : List V} {xs : List Dat}, Rs K cm F vs xs → xs.all flat = true → inV v vs = xs.any fun c => eqb c d
  | _, _, .nil, _ => rfl
  | _, _, .cons r t, g => by
    rw [List.all_cons, Bool.and_eq_true] at g
    have ih := inV_any h f t g.2
    unfold inV at ih ⊢
    rw [List.any_cons, List.any_cons, ih, eqV_eqb r h g.1 f]
def isK : Dat → Option Key
  | .int i => some (.inl i)
  | .str z => some (.inr z)
  | _ => none
theorem isK_V {K : PySem.W.Frag} {F : Hp} {v : V} {d : Dat} {k : Key} (h : R K cm F v d) (f : isK d = some k) : v = kV k := by
  cases h <;> cases f <;> rfl
def rInA (X : Cx) (neg : Bool) : R2 := fun x y H Q => rIn X.K neg x y H Q ∨ ((∃ i j, x = V.str i ∧ y = V.str j ∧ Q (.bl (if neg then !(!(Builtin.Str.occurrences j i 0 j.length 1).isEmpty) else !(Builtin.Str.occurrences j i 0 j.length 1).isEmpty)) H) ∨ ∃ q o, y = .ref q ∧ DGet H q x o ∧ Q (.bl (if neg then !o.isSome else o.isSome)) H)
theorem op_inDk (hu : X.A.units + 1 < cLine) : OpR X (compareOp .In) (fun x y H Q => ∃ q o, y = .ref q ∧ DGet H q x o ∧ Q (.bl o.isSome) H) := by
  intro pins s σ H x y v u Q I rx ry ⟨q, o, ey, g, k⟩
  subst ey
  cases ry
  exact d_in hu I g rx fun s' I' => ⟨.bl _, H, I', rfl, k⟩
theorem op_notInDk (hu : X.A.units + 1 < cLine) : OpR X (compareOp .NotIn) (fun x y H Q => ∃ q o, y = .ref q ∧ DGet H q x o ∧ Q (.bl (!o.isSome)) H) := by
  intro pins s σ H x y v u Q I rx ry ⟨q, o, ey, g, k⟩
  subst ey
  cases ry
  exact d_notIn hu I g rx fun s' I' => ⟨.bl _, H, I', rfl, k⟩
theorem op_inA (hu : X.A.units + 1 < cLine) : OpR X (compareOp .In) (rInA X false) := op_in_seq.or (op_in_str.or (op_inDk hu))
theorem op_notInA (hu : X.A.units + 1 < cLine) : OpR X (compareOp .NotIn) (rInA X true) := op_notIn_seq.or (op_notIn_str.or (op_notInDk hu))
def inB : Dat → Dat → Option Bool
  | d, .lst xs => if flat d && xs.all flat then some (xs.any fun c => eqb c d) else none
  | d, .tup xs => if flat d && xs.all flat then some (xs.any fun c => eqb c d) else none
  | .str i, .str j => some (!(Builtin.Str.occurrences j i 0 j.length 1).isEmpty)
  | d, .dct ks _ => (isK d).map fun k => ks.any fun j => decide (j = k)
  | _, _ => none
def inD (x y : Dat) : Option Dat := (inB x y).map Dat.bl
def ninD (x y : Dat) : Option Dat := (inB x y).map fun k => .bl (!k)
theorem valV_some (k : Key) (kvs : List (Key × V)) : (valV kvs k).isSome = (kvs.map (·.1)).any fun j => decide (j = k) := by
  rw [← valV_any, List.any_map]
  rfl
theorem in_of (neg : Bool) (F H : Hp) (x y : V) (a b : Dat) (k : Bool) (Q : VK) (e : Same F H) (r1 : R X.K cm F x a) (r2 : R X.K cm F y b) (hg : inB a b = some k) (q : Q (.bl (if neg then !k else k)) H) : rInA X neg x y H Q := by
  unfold inB at hg
  split at hg
  · obtain ⟨c, rfl⟩ := ite_some hg
    rw [Bool.and_eq_true] at c
    obtain ⟨p, vs, rfl, g, z⟩ := r2.lst_inv
    refine .inl ⟨p, vs, rfl, .inl (.inl (same_rd e g)), flat_V r1 c.1, flats_V z c.2, ?_⟩
    rw [inV_any r1 c.1 z c.2]
    exact q
  · obtain ⟨c, rfl⟩ := ite_some hg
    rw [Bool.and_eq_true] at c
    obtain ⟨p, vs, rfl, g, z⟩ := r2.tup_inv
    refine .inl ⟨p, vs, rfl, .inr (same_sqT e g), flat_V r1 c.1, flats_V z c.2, ?_⟩
    rw [inV_any r1 c.1 z c.2]
    exact q
  · cases hg
    exact .inr (.inl ⟨_, _, r1.str_inv, r2.str_inv, q⟩)
  · obtain ⟨key, e1, rfl⟩ := map_some' hg
    obtain ⟨p, kvs, rfl, g, ek, z⟩ := r2.dct_inv
    have ev := isK_V r1 e1
    subst ev
    refine .inr (.inr ⟨p, valV kvs key, rfl, .inl ⟨kvs, key, same_rd e g, rfl, rfl⟩, ?_⟩)
    rw [valV_some, ek]
    exact q
  · cases hg
theorem od_in : OpD X cm (rInA X false) inD := fun F H x y a b d Q e r1 r2 hg k => by
  obtain ⟨c, e1, rfl⟩ := map_some' hg
  exact in_of false F H x y a b c Q e r1 r2 e1 (k _ F H (Ext.refl e) (.bl _))
theorem od_nin : OpD X cm (rInA X true) ninD := fun F H x y a b d Q e r1 r2 hg k => by
  obtain ⟨c, e1, rfl⟩ := map_some' hg
  exact in_of true F H x y a b c Q e r1 r2 e1 (k _ F H (Ext.refl e) (.bl _))
theorem e_in (hu : X.A.units + 1 < cLine) (ha : PE X a (ofE X.K cm fa)) (hb : PE X b (ofE X.K cm fb)) (hm : behindInMarks .In b = false := by rfl) : PE X (.Compare a [.In] [b] pos) (ofE X.K cm (bin inD fa fb)) := e_cmp (op_inA hu) od_in ha hb hm
theorem e_nin (hu : X.A.units + 1 < cLine) (ha : PE X a (ofE X.K cm fa)) (hb : PE X b (ofE X.K cm fb)) (hm : behindInMarks .NotIn b = false := by rfl) : PE X (.Compare a [.NotIn] [b] pos) (ofE X.K cm (bin ninD fa fb)) := e_cmp (op_notInA hu) od_nin ha hb hm
theorem t_in (hu : X.A.units + 1 < cLine) (ha : PE X a (ofE X.K cm fa)) (hb : PE X b (ofE X.K cm fb)) (hm : behindInMarks .In b = false := by rfl) : PT X (.Compare a [.In] [b] pos) (ofT X.K cm (tst (bin inD fa fb))) := t_cmp (op_inA hu) od_in ha hb hm
theorem t_nin (hu : X.A.units + 1 < cLine) (ha : PE X a (ofE X.K cm fa)) (hb : PE X b (ofE X.K cm fb)) (hm : behindInMarks .NotIn b = false := by rfl) : PT X (.Compare a [.NotIn] [b] pos) (ofT X.K cm (tst (bin ninD fa fb))) := t_cmp (op_notInA hu) od_nin ha hb hm

/-! ### isinstance(x, T), T a built-in type -/
def tyN : Dat → Option String
  | .non => some "NoneType" | .bl _ => some "bool" | .int _ => some "int" | .str _ => some "str" | .tup _ => some "tuple" | .lst _ => some "list" | .dct _ _ => some "dict"
  | .obj _ _ _ => none
  | .scr _ => none
def isiD (T : String) (d : Dat) : Option Dat := match d with
  | .non => (kitB "NoneType" T).map Dat.bl
  | .bl _ => (kitB "bool" T).map Dat.bl
  | .int _ => (kitB "int" T).map Dat.bl
  | .str _ => (kitB "str" T).map Dat.bl
  | .tup _ => (kitB "tuple" T).map Dat.bl
  | .lst _ => (kitB "list" T).map Dat.bl
  | .dct _ _ => (kitB "dict" T).map Dat.bl
  | .obj _ _ _ => none
  | .scr _ => none
theorem tyx_dat {K : PySem.W.Frag} {F H : Hp} {v : V} {d : Dat} {n : String} (e : Same F H) (h : R K cm F v d) (t : tyN d = some n) : TyX K H v (.type n) := by
  cases h with
  | non => cases t; exact .base .non
  | bl b => cases t; exact .base (.bl b)
  | int b => cases t; exact .base (.int b)
  | str b => cases t; exact .base (.str b)
  | lst q r =>
    cases t
    rcases same_rd e q with q | ⟨o, q⟩
    · exact .base (.lst q)
    · exact .base (.frz q)
  | tup q r =>
    cases t
    rcases same_sqT e q with (q | ⟨o, q⟩) | ⟨o, its, k, q, c, _⟩
    · exact .base (.tup q)
    · exact .fTuple q
    · exact .kTuple q c
  | dct q k r =>
    cases t
    rcases same_rd e q with q | ⟨o, q⟩
    · exact .base (.dK q)
    · exact .fDict q
  | obj q k r => cases t
  | scr q r => cases t
theorem isi_ty {T : String} {d r : Dat} (h : isiD T d = some r) : ∃ n b, tyN d = some n ∧ kitB n T = some b ∧ r = .bl b := by
  unfold isiD at h
  cases d with
  | obj c fs xs => cases h
  | scr xs => cases h
  | _ =>
    obtain ⟨b, e1, rfl⟩ := map_some' h
    exact ⟨_, b, rfl, e1, rfl⟩
theorem e_isi {T : String} {x : Str} {p p' : Pos} (hg : Gl X "isinstance") (hm : X.mg "isinstance" = none) (hg2 : Gl X x) (hm2 : X.mg x = none) (hv2 : bootBuiltins x = some (.type T)) (ha : PE X a (ofE X.K cm fa)) (hn : x ≠ "__name__" := by decide) (hdb : (x == ("__debug__" : Str)) = false := by decide)
    (he : starEach (a :: [.Name x p']) X.env = (false, eval a X.env) :: starEach [.Name x p'] X.env := by rfl) (he2 : starEach [.Name x p'] X.env = (false, eval (.Name x p') X.env) :: starEach [] X.env := by rfl) (hpl : (backTo pos (starEach [.Name x p'] X.env)).any (·.1) = false := by rfl) :
    PE X (.Call (.Name "isinstance" p) [a, .Name x p'] [] pos) (ofE X.K cm (un (isiD T) fa)) :=
  PE.imp (pe_callB call_isi hg hm (by decide +kernel) (pa_cons ha (pa_cons (pe_bltn (v := .ty T) hg2 hm2 hv2 rfl hn hdb) pa_nil he2) he) (by decide) (by decide) he hpl) fun σ H Q ⟨F, ρ, As, d, rel, hf, k⟩ => by
    obtain ⟨y, e1, hf⟩ := bind_some hf
    obtain ⟨n, c, h1, h2, rfl⟩ := isi_ty hf
    exact ⟨F, ρ, As, y, rel, e1, fun v F1 H1 x1 r1 => ⟨v, .ty T, .type n, .type T, c, rfl, .ty T, tyx_dat x1.fh r1 h1, kit_ty h2, k _ F1 H1 x1 (.bl _)⟩⟩
end
end
end Pq

namespace Pq
open PySem PySem.Spec PyProof.Rows L2
noncomputable section
section
variable {X : Cx} {cm : Str → Addr} {a b e : Expr} {es : List Expr} {fa fb : Rho → Option Dat} {pos : Pos}

/-! ### calls of defs -/
def callS (g : List Dat → Option Out) (f : Rho → Option (List Dat)) : Rho → Option SV := fun ρ => (f ρ).bind fun ds => (g ds).bind fun
  | .ok sv => some sv
  | .exc _ _ _ => none
theorem spX_of {K : PySem.W.Frag} {F H : Hp} {vs : List V} {ds : List Dat} {g : List Dat → Option Out} {sv : SV} {Q : VK} {E : XK} (e : Same F H) (r : Rs K cm F vs ds) (h : (g ds).bind (fun | .ok sv => some sv | .exc _ _ _ => none) = some sv)
    (k : ∀ v F' H' A, Ext F H F' H' → RO K cm F' H' v sv A → A.Nodup → (∀ a ∈ A, H a = none) → Q v H') : spX K cm g vs H Q E := by
  obtain ⟨o, e1, h⟩ := bind_some h
  cases o with
  | ok sv' =>
    cases h
    exact ⟨F, ds, _, e, r, e1, k⟩
  | exc n fs xs => cases h
theorem call_of {g : List Dat → Option Out} {fs : Rho → Option (List Dat)} {E : XK} : ∀ σ H Q, ofO X.K cm (callS g fs) σ H Q → tCall (spX X.K cm g) [] E (ofA X.K cm fs) σ H Q := fun σ H Q ⟨F, ρ, As, sv, rel, hf, k⟩ => by
  obtain ⟨ds, e1, hf⟩ := bind_some hf
  refine ⟨F, ρ, As, ds, rel, e1, fun vs F1 H1 x1 r1 => ?_⟩
  show spX X.K cm g (vs ++ []) H1 Q E
  rw [List.append_nil]
  exact spX_of x1.fh r1 hf fun v F2 H2 A x2 r2 nd n => k v F2 H2 A (x1.trans x2) r2 nd fun a h => x1.h.free (n a h)
variable {k : Nat} {f C : Addr} {fd : FuncData} {ps : List Str} {g : List Dat → Option Out} {x m : Str} {p apos : Pos} {fs : Rho → Option (List Dat)}
theorem o_call (G : FnOk X.prog X.w X.K X.mg X.base (L2.CX X.prog X.w) k f fd ps (spX X.K cm g)) (hr : Room k X.A) (hg : Gl X x) (hm : X.mg x = some (.ref f)) (hk : PySem.W.keepIn X.K (.ref f) = true) (hb : Binds X.K fd ps []) (ha : PA X (e :: es) (ofA X.K cm fs))
    (hdb : (x == ("__debug__" : Str)) = false := by decide) (he : starEach (e :: es) X.env = (false, eval e X.env) :: starEach es X.env := by rfl) (hpl : (backTo pos (starEach es X.env)).any (·.1) = false := by rfl) : PE X (.Call (.Name x p) (e :: es) [] pos) (ofO X.K cm (callS g fs)) :=
  PE.imp (pe_call G hr hg hm hk hb .nil passL ha hdb he hpl) call_of
theorem o_call0 (G : FnOk X.prog X.w X.K X.mg X.base (L2.CX X.prog X.w) k f fd ps (spX X.K cm g)) (hr : Room k X.A) (hg : Gl X x) (hm : X.mg x = some (.ref f)) (hk : PySem.W.keepIn X.K (.ref f) = true) (hb : Binds X.K fd ps [])
    (hdb : (x == ("__debug__" : Str)) = false := by decide) : PE X (.Call (.Name x p) [] [] pos) (ofO X.K cm (callS g nilA)) :=
  PE.imp (pe_call0 G hr hg hm hk hb .nil passL hdb) fun σ H Q ⟨F, ρ, As, sv, rel, hf, q⟩ => by
    obtain ⟨ds, e1, hf⟩ := bind_some hf
    cases e1
    exact spX_of rel.fh .nil hf q

/-! ### what is walked -/
structure Itf (K : PySem.W.Frag) (cm : Str → Addr) (J : It) (F : Hp) (ds : List Dat) : Prop where
  stop : ∀ i F' H, Same F F' → Same F' H → ds.length ≤ i → J.stop i H
  go : ∀ i F' H, Same F F' → Same F' H → i < ds.length → J.go i H
  yld : ∀ i F' H x H', Same F F' → Same F' H → i < ds.length → J.yld i H x H' → ∃ F'' d, Ext F' H F'' H' ∧ ds[i]? = some d ∧ R K cm F'' x d
def ofI (K : PySem.W.Frag) (cm : Str → Addr) (f : Rho → Option (List Dat)) : TI := fun σ H Rr => ∃ F ρ As ds, Rel K cm F H σ ρ As ∧ f ρ = some ds ∧ ∀ F' H' J, Ext F H F' H' → Itf K cm J F' ds → Rr J H'
theorem PI.imp {tg it : Expr} {t t' : TI} (h : PI X tg it t) (i : ∀ σ H Q, t' σ H Q → t σ H Q) : PI X tg it t' := ⟨fun pins s σ H Q I q => h.run pins s σ H Q I (i σ H Q q)⟩
theorem sqL_inj' {K : PySem.W.Frag} {H : Hp} {a : Addr} {vs ws : List V} (h : Rd H a (.lst vs)) (h' : Rd H a (.lst ws)) : vs = ws := by
  rcases h with h | ⟨o, h⟩ <;> rcases h' with h' | ⟨o', h'⟩ <;> rw [h] at h' <;> cases h' <;> rfl
theorem itf_list {K : PySem.W.Frag} {F : Hp} {a : Addr} {vs : List V} {ds : List Dat} (h : SqL K F a vs) (r : Rs K cm F vs ds) : Itf K cm (Itl K a) F ds where
  stop := fun i F' H e1 e2 hi => ⟨vs, (e1.trans e2).seq h, by rw [r.length]; exact hi⟩
  go := fun i F' H e1 e2 hi => by
    obtain ⟨v, h1, _⟩ := r.get (List.getElem?_eq_getElem hi)
    exact ⟨vs, v, (e1.trans e2).seq h, h1⟩
  yld := fun i F' H x H' e1 e2 hi ⟨eH, hy⟩ => by
    subst eH
    obtain ⟨v, h1, h2⟩ := r.get (List.getElem?_eq_getElem hi)
    have := hy vs ((e1.trans e2).seq h)
    rw [h1] at this
    cases this
    exact ⟨F', _, Ext.refl e2, List.getElem?_eq_getElem hi, h2.mono e1⟩
theorem itf_tup {K : PySem.W.Frag} {F : Hp} {a : Addr} {vs : List V} {ds : List Dat} (h : SqT K F a vs) (r : Rs K cm F vs ds) : Itf K cm (Itt K a) F ds where
  stop := fun i F' H e1 e2 hi => ⟨vs, same_sqT (e1.trans e2) h, by rw [r.length]; exact hi⟩
  go := fun i F' H e1 e2 hi => by
    obtain ⟨v, h1, _⟩ := r.get (List.getElem?_eq_getElem hi)
    exact ⟨vs, v, same_sqT (e1.trans e2) h, h1⟩
  yld := fun i F' H x H' e1 e2 hi ⟨eH, hy⟩ => by
    subst eH
    obtain ⟨v, h1, h2⟩ := r.get (List.getElem?_eq_getElem hi)
    have := hy vs (same_sqT (e1.trans e2) h)
    rw [h1] at this
    cases this
    exact ⟨F', _, Ext.refl e2, List.getElem?_eq_getElem hi, h2.mono e1⟩
def rng (lo : Int) (n : Nat) : List Dat := (List.range n).map fun (i : Nat) => Dat.int (lo + (i : Int))
theorem rng_len (lo : Int) (n : Nat) : (rng lo n).length = n := by unfold rng; rw [List.length_map, List.length_range]
theorem itf_rng {K : PySem.W.Frag} {F : Hp} {lo : Int} {n : Nat} : Itf K cm (Itr lo n) F (rng lo n) where
  stop := fun i F' H e1 e2 hi => by rw [rng_len] at hi; exact hi
  go := fun i F' H e1 e2 hi => by rw [rng_len] at hi; exact hi
  yld := fun i F' H x H' e1 e2 hi ⟨eH, ex⟩ => by
    subst eH ex
    rw [rng_len] at hi
    refine ⟨F', _, Ext.refl e2, ?_, .int _⟩
    unfold rng
    rw [List.getElem?_map, List.getElem?_range hi]
    rfl
def itL (f : Rho → Option Dat) : Rho → Option (List Dat) := fun ρ => (f ρ).bind fun
  | .lst xs => some xs
  | .scr xs => some xs
  | _ => none
def itT (f : Rho → Option Dat) : Rho → Option (List Dat) := fun ρ => (f ρ).bind fun
  | .tup xs => some xs
  | _ => none
variable {tg : Expr}
theorem i_list (ha : PE X a (ofE X.K cm fa)) : PI X tg a (ofI X.K cm (itL fa)) := PI.imp (pi_list ha) fun σ H Q ⟨F, ρ, As, ds, rel, hf, q⟩ => by
  obtain ⟨d, e1, hf⟩ := bind_some hf
  cases d with
  | lst xs =>
    cases hf
    refine ⟨F, ρ, As, _, rel, e1, fun v F1 H1 x1 r1 => ?_⟩
    obtain ⟨p, vs, rfl, h, r⟩ := r1.lst_inv
    exact ⟨p, rfl, ⟨vs, .inl (same_rd x1.fh h)⟩, q F1 H1 _ x1 (itf_list (.inl h) r)⟩
  | scr xs =>
    cases hf
    refine ⟨F, ρ, As, _, rel, e1, fun v F1 H1 x1 r1 => ?_⟩
    obtain ⟨p, vs, rfl, h, r⟩ := r1.scr_inv
    exact ⟨p, rfl, ⟨vs, x1.fh.seq h⟩, q F1 H1 _ x1 (itf_list h r)⟩
  | _ => cases hf
theorem i_tup (ha : PE X a (ofE X.K cm fa)) : PI X tg a (ofI X.K cm (itT fa)) := PI.imp (pi_tup ha) fun σ H Q ⟨F, ρ, As, ds, rel, hf, q⟩ => by
  obtain ⟨d, e1, hf⟩ := bind_some hf
  cases d with
  | tup xs =>
    cases hf
    refine ⟨F, ρ, As, _, rel, e1, fun v F1 H1 x1 r1 => ?_⟩
    obtain ⟨p, vs, rfl, h, r⟩ := r1.tup_inv
    exact ⟨p, rfl, ⟨vs, same_sqT x1.fh h⟩, q F1 H1 _ x1 (itf_tup h r)⟩
  | _ => cases hf
def itR1 (f : Rho → Option (List Dat)) : Rho → Option (List Dat) := fun ρ => (f ρ).bind fun
  | [.int j] => @ite _ (-(2 ^ 62) ≤ j ∧ j < 2 ^ 62) (Classical.propDecidable _) (some (rng 0 j.toNat)) none
  | _ => none
def itR2 (f : Rho → Option (List Dat)) : Rho → Option (List Dat) := fun ρ => (f ρ).bind fun
  | [.int i, .int j] => @ite _ (-(2 ^ 62) ≤ i ∧ i < 2 ^ 62 ∧ -(2 ^ 62) ≤ j ∧ j < 2 ^ 62) (Classical.propDecidable _) (some (rng i (j - i).toNat)) none
  | _ => none
theorem i_range1 (hg : Gl X "range") (hm : X.mg "range" = none) (ha : PA X [a] (ofA X.K cm fs)) (hs : starEach [a] X.env = [(false, eval a X.env)] := by rfl) : PI X tg (.Call (.Name "range" p) [a] [] pos) (ofI X.K cm (itR1 fs)) := PI.imp (pi_range1 hg hm ha hs) fun σ H Q ⟨F, ρ, As, ds, rel, hf, q⟩ => by
  obtain ⟨ns, e1, hf⟩ := bind_some hf
  split at hf
  · obtain ⟨c, rfl⟩ := ite_some hf
    refine ⟨F, ρ, As, _, rel, e1, fun vs F1 H1 x1 r1 => ?_⟩
    obtain ⟨v, rfl, r⟩ := r1.one
    exact ⟨_, by rw [r.int_inv], c.1, c.2, q F1 H1 _ x1 itf_rng⟩
  · cases hf
theorem i_range2 (hg : Gl X "range") (hm : X.mg "range" = none) (ha : PA X [a, b] (ofA X.K cm fs)) (hs : starEach [a, b] X.env = [(false, eval a X.env), (false, eval b X.env)] := by rfl) (hs2 : starEach [b] X.env = [(false, eval b X.env)] := by rfl) : PI X tg (.Call (.Name "range" p) [a, b] [] pos) (ofI X.K cm (itR2 fs)) := PI.imp (pi_range2 hg hm ha hs hs2) fun σ H Q ⟨F, ρ, As, ds, rel, hf, q⟩ => by
  obtain ⟨ns, e1, hf⟩ := bind_some hf
  split at hf
  · obtain ⟨c, rfl⟩ := ite_some hf
    refine ⟨F, ρ, As, _, rel, e1, fun vs F1 H1 x1 r1 => ?_⟩
    obtain ⟨v, v', rfl, r, r'⟩ := r1.two
    exact ⟨_, _, by rw [r.int_inv, r'.int_inv], c, q F1 H1 _ x1 itf_rng⟩
  · cases hf

/-! ### targets -/
def ofG (K : PySem.W.Frag) (cm : Str → Addr) (h : Dat → Rho → Option Rho) (is : List Nat) : TG := fun v σ H Q => ∃ F ρ As d ρ', Rel K cm F H σ ρ As ∧ R K cm F v d ∧ h d ρ = some ρ' ∧
  ∀ σ' As', Rel K cm F H σ' ρ' As' → (∀ i, ∀ a ∈ As' i, a ∈ As i) → (∀ j, j ∉ is → σ'[j]? = σ[j]?) → σ'.length = σ.length → Q σ' H
def ofGs (K : PySem.W.Frag) (cm : Str → Addr) (h : List Dat → Rho → Option Rho) (is : List Nat) : TGs := fun vs σ H Q => ∃ F ρ As ds ρ', Rel K cm F H σ ρ As ∧ Rs K cm F vs ds ∧ h ds ρ = some ρ' ∧
  ∀ σ' As', Rel K cm F H σ' ρ' As' → (∀ i, ∀ a ∈ As' i, a ∈ As i) → (∀ j, j ∉ is → σ'[j]? = σ[j]?) → σ'.length = σ.length → Q σ' H
theorem PG.imp {t t' : TG} (h : PG X e t) (i : ∀ v σ H Q, t' v σ H Q → t v σ H Q) : PG X e t' := ⟨fun pins s σ H v u Q I r q => h.run pins s σ H v u Q I r (i v σ H Q q)⟩
theorem PGs.imp {t t' : TGs} (h : PGs X es t) (i : ∀ v σ H Q, t' v σ H Q → t v σ H Q) : PGs X es t' := ⟨fun pins s σ H v u Q I r q => h.run pins s σ H v u Q I r (i v σ H Q q)⟩
def hName (i : Nat) : Dat → Rho → Option Rho := fun d ρ => some (ρ.set i (some (.fro d)))
theorem g_name {i : Nat} {x : Str} (hN : X.N.Nodup) (hi : X.N[i]? = some x) (hx : Loc X.env.scope x) (hf : X.fn x = true ∨ X.env.scope.names.lookup x = some .local := by first | exact .inl rfl | exact .inr rfl | assumption) : PG X (.Name x pos) (ofG X.K cm (hName i) [i]) :=
  PG.imp (pg_name hN hi hx hf) fun v σ H Q ⟨F, ρ, As, d, ρ', rel, r, hd, q⟩ => by
    cases hd
    refine q _ _ (rel.setD r) (fun j a ha => ?_) (fun j hj => ?_) (by rw [List.length_set])
    · by_cases z : j = i
      · simp only [if_pos z] at ha
        simp at ha
      · simp only [if_neg z] at ha
        exact ha
    · rw [List.getElem?_set_ne (fun z => hj (by simp [z]))]
def hNil : List Dat → Rho → Option Rho := fun ds ρ => match ds with
  | [] => some ρ
  | _ :: _ => none
def hCons (h : Dat → Rho → Option Rho) (hs : List Dat → Rho → Option Rho) : List Dat → Rho → Option Rho := fun ds ρ => match ds with
  | [] => none
  | d :: ds => (h d ρ).bind fun ρ1 => hs ds ρ1
theorem gs_nil : PGs X [] (ofGs X.K cm hNil []) := PGs.imp pgs_nil fun vs σ H Q ⟨F, ρ, As, ds, ρ', rel, r, hd, q⟩ => by
  cases r with
  | nil =>
    cases hd
    exact ⟨rfl, q σ As rel (fun _ _ h => h) (fun _ _ => rfl) rfl⟩
  | cons _ _ => cases hd
theorem gs_cons {h : Dat → Rho → Option Rho} {hs : List Dat → Rho → Option Rho} {is js : List Nat} (h1 : PG X e (ofG X.K cm h is)) (h2 : PGs X es (ofGs X.K cm hs js)) (hst : (assignEach (e :: es) X.env).map (·.2) = assign e X.env :: (assignEach es X.env).map (·.2) := by rfl) : PGs X (e :: es) (ofGs X.K cm (hCons h hs) (is ++ js)) :=
  PGs.imp (pgs_cons h1 h2 hst) fun vs σ H Q ⟨F, ρ, As, ds, ρ', rel, r, hd, q⟩ => by
    cases r with
    | nil => cases hd
    | cons r1 rs =>
      obtain ⟨ρ1, e1, hd⟩ := bind_some hd
      exact ⟨_, _, rfl, F, ρ, As, _, ρ1, rel, r1, e1, fun σ1 As1 rel1 s1 o1 l1 => ⟨F, ρ1, As1, _, ρ', rel1, rs, hd, fun σ2 As2 rel2 s2 o2 l2 => q σ2 As2 rel2 (fun i a h => s1 i a (s2 i a h)) (fun j hj => (o2 j fun z => hj (List.mem_append_right _ z)).trans (o1 j fun z => hj (List.mem_append_left _ z))) (l2.trans l1)⟩⟩
def hTup (n : Nat) (hs : List Dat → Rho → Option Rho) : Dat → Rho → Option Rho := fun d ρ => match d with
  | .tup ds => if ds.length = n then hs ds ρ else none
  | _ => none
theorem g_tup {k n : Nat} {hs : List Dat → Rho → Option Rho} {is : List Nat} (hc : X.calm = true) (h : PGs X es (ofGs X.K cm hs is)) (hn : (assignEach es X.env).length = n := by rfl) (hst : (assignEach es X.env).findIdx? (·.1) = none := by rfl) : PG X (.Tuple es k pos) (ofG X.K cm (hTup n hs) is) :=
  PG.imp (pg_tup hc h hn hst) fun v σ H Q ⟨F, ρ, As, d, ρ', rel, r, hd, q⟩ => by
    unfold hTup at hd
    split at hd
    · split at hd
      · rename_i c
        obtain ⟨p, vs, rfl, g, rs⟩ := r.tup_inv
        exact ⟨p, vs, rfl, same_sqT rel.fh g, by rw [rs.length]; exact c, F, ρ, As, _, ρ', rel, rs, hd, q⟩
      · cases hd
    · cases hd

/-! ### comprehensions -/
def wipeR (ρ : Rho) : List Nat → Rho
  | [] => ρ
  | v :: vs => (wipeR ρ vs).set v none
theorem wipeR_len (ρ : Rho) : ∀ vs : List Nat, (wipeR ρ vs).length = ρ.length
  | [] => rfl
  | v :: vs => by rw [wipeR, List.length_set, wipeR_len ρ vs]
theorem wipe_in (σ : L2.St) : ∀ (vs : List Nat) (i : Nat), i ∈ vs → i < σ.length → (wipe σ vs)[i]? = some none
  | v :: vs, i, hi, hl => by
    rw [wipe]
    by_cases hv : v = i
    · subst hv
      rw [List.getElem?_set_self (by rw [wipe_length]; exact hl)]
    · rw [List.getElem?_set_ne hv]
      rcases List.mem_cons.mp hi with z | z
      · exact absurd z.symm hv
      · exact wipe_in σ vs i z hl
theorem wipe_out (σ : L2.St) : ∀ (vs : List Nat) (i : Nat), i ∉ vs → (wipe σ vs)[i]? = σ[i]?
  | [], i, _ => rfl
  | v :: vs, i, hi => by
    rw [wipe, List.getElem?_set_ne (fun z => hi (by simp [z]))]
    exact wipe_out σ vs i fun z => hi (List.mem_cons_of_mem _ z)
theorem wipeR_in (ρ : Rho) : ∀ (vs : List Nat) (i : Nat), i ∈ vs → i < ρ.length → (wipeR ρ vs)[i]? = some none
  | v :: vs, i, hi, hl => by
    rw [wipeR]
    by_cases hv : v = i
    · subst hv
      rw [List.getElem?_set_self (by rw [wipeR_len]; exact hl)]
    · rw [List.getElem?_set_ne hv]
      rcases List.mem_cons.mp hi with z | z
      · exact absurd z.symm hv
      · exact wipeR_in ρ vs i z hl
theorem wipeR_out (ρ : Rho) : ∀ (vs : List Nat) (i : Nat), i ∉ vs → (wipeR ρ vs)[i]? = ρ[i]?
  | [], i, _ => rfl
  | v :: vs, i, hi => by
    rw [wipeR, List.getElem?_set_ne (fun z => hi (by simp [z]))]
    exact wipeR_out ρ vs i fun z => hi (List.mem_cons_of_mem _ z)
theorem wipe_eq {σ σ2 : L2.St} {vs : List Nat} (hl : σ2.length = σ.length) (h : ∀ j, j ∉ vs → σ2[j]? = (wipe σ vs)[j]?) : wipe σ2 vs = wipe σ vs := by
  apply List.ext_getElem?
  intro i
  by_cases hi : i ∈ vs
  · by_cases hb : i < σ.length
    · rw [wipe_in σ2 vs i hi (by rw [hl]; exact hb), wipe_in σ vs i hi hb]
    · rw [List.getElem?_eq_none (by rw [wipe_length]; omega), List.getElem?_eq_none (by rw [wipe_length]; omega)]
  · rw [wipe_out σ2 vs i hi]
    exact h i hi
theorem Rel.wipe {K : PySem.W.Frag} {F H : Hp} {σ : L2.St} {ρ : Rho} {As : Nat → List Addr} (r : Rel K cm F H σ ρ As) (vs : List Nat) : Rel K cm F H (L2.wipe σ vs) (wipeR ρ vs) As := r.weak (by rw [wipe_length, wipeR_len]; exact r.len) fun i sv h => by
  by_cases hi : i ∈ vs
  · by_cases hb : i < ρ.length
    · rw [wipeR_in ρ vs i hi hb] at h
      cases h
    · rw [List.getElem?_eq_none (by rw [wipeR_len]; omega)] at h
      cases h
  · rw [wipeR_out ρ vs i hi] at h
    exact ⟨h, wipe_out σ vs i hi⟩
def lcGo (h : Dat → Rho → Option Rho) (t : Rho → Option Bool) (f : Rho → Option Dat) (ρ : Rho) : List Dat → Option (List Dat)
  | [] => some []
  | d :: ds => (h d ρ).bind fun ρ1 => (t ρ1).bind fun c => if c = true then (f ρ1).bind fun y => (lcGo h t f ρ ds).map fun ys => y :: ys else lcGo h t f ρ ds
def lcL (it : Rho → Option (List Dat)) (vs : List Nat) (h : Dat → Rho → Option Rho) (t : Rho → Option Bool) (f : Rho → Option Dat) : Rho → Option (List Dat) := fun ρ => (it ρ).bind fun ds => @ite _ (ds.length ≤ sizeLine) (Classical.propDecidable _) (lcGo h t f (wipeR ρ vs) ds) none
theorem lc_run {it : Rho → Option (List Dat)} {vs is : List Nat} {h : Dat → Rho → Option Rho} {t : Rho → Option Bool} {f : Rho → Option Dat} (hsub : ∀ i ∈ is, i ∈ vs) {F H : Hp} {σ : L2.St} {ρ : Rho} {As : Nat → List Addr} {out : List Dat} {Q : VK} (rel : Rel X.K cm F H σ ρ As) (hf : lcL it vs h t f ρ = some out)
    (q : ∀ F' H' D acc, Ext F H F' H' → F' D = none → H D = none → H' D = some (.lst acc) → Rs X.K cm F' acc out → Q (.ref D) H') : tLc (ofI X.K cm it) (ofG X.K cm h is) (ofT X.K cm t) (ofE X.K cm f) vs σ H Q := by
  obtain ⟨ds, e1, hf⟩ := bind_some hf
  split at hf
  case isFalse => cases hf
  rename_i hz
  refine ⟨F, ρ, As, ds, rel, e1, fun F1 H1 J x1 hJ D hD => ?_⟩
  have hFD : F1 D = none := x1.fh.free hD
  refine ⟨fun i m H' => m = ds.length - i ∧ i ≤ ds.length ∧ ∃ F2 acc o1 o2, Ext F1 H1 F2 H' ∧ F2 D = none ∧ H' D = some (.lst acc) ∧ Rs X.K cm F2 acc o1 ∧ acc.length ≤ i ∧ lcGo h t f (wipeR ρ vs) (ds.drop i) = some o2 ∧ o1 ++ o2 = out,
    ⟨ds.length, by simp, Nat.zero_le _, F1, [], [], out, Ext.open x1.fh hD, hFD, upd_same, .nil, Nat.zero_le _, hf, rfl⟩, ?_⟩
  rintro i m H2 ⟨rfl, hi, F2, acc, o1, o2, x2, hF2, hH2, ra, la, hgo, heq⟩
  by_cases hlt : i < ds.length
  · refine .inr ⟨hJ.go i F2 H2 x2.f x2.fh hlt, fun H' => ∃ F3 acc' o1' o2', Ext F1 H1 F3 H' ∧ F3 D = none ∧ H' D = some (.lst acc') ∧ Rs X.K cm F3 acc' o1' ∧ acc'.length ≤ i + 1 ∧ lcGo h t f (wipeR ρ vs) (ds.drop (i + 1)) = some o2' ∧ o1' ++ o2' = out, fun H' z => ⟨ds.length - (i + 1), by omega, rfl, hlt, z⟩, fun x H' hy => ?_⟩
    obtain ⟨F3, d, x3, ed, rd⟩ := hJ.yld i F2 H2 x H' x2.f x2.fh hlt hy
    rw [List.drop_eq_getElem_cons hlt, lcGo] at hgo
    have edd : ds[i] = d := by rw [List.getElem?_eq_getElem hlt] at ed; exact Option.some.inj ed
    rw [edd] at hgo
    obtain ⟨ρ1, e2, hgo⟩ := bind_some hgo
    obtain ⟨c, e3, hgo⟩ := bind_some hgo
    have x123 := x1.trans (x2.trans x3)
    refine ⟨F3, wipeR ρ vs, As, d, ρ1, (rel.ext x123).wipe vs, rd, e2, fun σ2 As2 rel2 s2 ou2 l2 => ⟨wipe_eq (l2.trans (wipe_length _ _)) fun j hj => ou2 j fun z => hj (hsub j z), F3, ρ1, As2, c, rel2, e3, fun F4 H4 x4 => ?_⟩⟩
    have x34 := x3.trans x4
    cases c with
    | true =>
      rw [if_pos rfl] at hgo
      obtain ⟨y, e4, hgo⟩ := bind_some hgo
      obtain ⟨ys, e5, rfl⟩ := map_some' hgo
      refine iteT ?_
      refine ⟨F4, ρ1, As2, y, rel2.ext x4, e4, fun v F5 H5 x5 r5 => ?_⟩
      have x345 := x34.trans x5
      have hD5 := x345.h _ _ hH2
      have hF5 := ext_none x345 hH2 hF2
      refine ⟨acc, hD5, by omega, F5, acc ++ [v], o1 ++ [y], ys, ?_, hF5, upd_same, (ra.mono x345.f).append (.cons r5 .nil), by rw [List.length_append, List.length_singleton]; omega, e5, by rw [List.append_assoc]; exact heq⟩
      have xx := x2.trans x345
      refine ⟨xx.f, fun a o z => ?_, fun a o z => ?_, xx.new⟩
      · rw [upd_ne (ne_of_none z hD)]
        exact xx.h a o z
      · rw [upd_ne (ne_of_none z hF5)]
        exact xx.fh a o z
    | false =>
      rw [if_neg Bool.false_ne_true] at hgo
      refine iteF ?_
      exact ⟨F4, acc, o1, o2, x2.trans x34, ext_none x34 hH2 hF2, x34.h _ _ hH2, ra.mono x34.f, by omega, hgo, heq⟩
  · have ei : i = ds.length := by omega
    subst ei
    rw [List.drop_length, lcGo] at hgo
    cases hgo
    rw [List.append_nil] at heq
    subst heq
    exact .inl ⟨hJ.stop _ F2 H2 x2.f x2.fh (Nat.le_refl _), q F2 H2 D acc (x1.trans x2) hF2 (x1.h.free hD) hH2 ra⟩
def lcS (it : Rho → Option (List Dat)) (vs : List Nat) (h : Dat → Rho → Option Rho) (t : Rho → Option Bool) (f : Rho → Option Dat) : Rho → Option Dat := fun ρ => (lcL it vs h t f ρ).map Dat.lst
def lcO (it : Rho → Option (List Dat)) (vs : List Nat) (h : Dat → Rho → Option Rho) (t : Rho → Option Bool) (f : Rho → Option Dat) : Rho → Option SV := fun ρ => (lcL it vs h t f ρ).map fun ds => .ol (ds.map SV.fro)
theorem lc_of {it : Rho → Option (List Dat)} {vs is : List Nat} {h : Dat → Rho → Option Rho} {t : Rho → Option Bool} {f : Rho → Option Dat} (hsub : ∀ i ∈ is, i ∈ vs) : ∀ σ H Q, ofE X.K cm (lcS it vs h t f) σ H Q → tLc (ofI X.K cm it) (ofG X.K cm h is) (ofT X.K cm t) (ofE X.K cm f) vs σ H Q := fun σ H Q ⟨F, ρ, As, d, rel, hf, k⟩ => by
  obtain ⟨ds, e1, rfl⟩ := map_some' hf
  refine lc_run hsub rel e1 fun F1 H1 D acc x1 n1 n2 g r => ?_
  refine k _ (plus F1 H1 [D]) H1 ⟨x1.f.trans (plus_same fun a h => by simp at h; rw [h]; exact n1), x1.h, plus_le x1.fh, fun a o z n => ?_⟩ (.lst (.inl (by rw [plus_in (by simp)]; exact g)) (r.mono (plus_same fun a h => by simp at h; rw [h]; exact n1)))
  by_cases hD : a ∈ [D]
  · simp at hD
    rw [hD]
    exact n2
  · rw [plus_out hD] at z
    exact x1.new a o z n
theorem lco_of {it : Rho → Option (List Dat)} {vs is : List Nat} {h : Dat → Rho → Option Rho} {t : Rho → Option Bool} {f : Rho → Option Dat} (hsub : ∀ i ∈ is, i ∈ vs) : ∀ σ H Q, ofO X.K cm (lcO it vs h t f) σ H Q → tLc (ofI X.K cm it) (ofG X.K cm h is) (ofT X.K cm t) (ofE X.K cm f) vs σ H Q := fun σ H Q ⟨F, ρ, As, d, rel, hf, k⟩ => by
  obtain ⟨ds, e1, rfl⟩ := map_some' hf
  exact lc_run hsub rel e1 fun F1 H1 D acc x1 n1 n2 g r => k _ F1 H1 [D] x1 (.ol n1 g (ros_fro r)) (by simp) (by simpa using n2)
theorem ts_nil : PTs X [] (ofT X.K cm fun _ => some true) := ⟨fun pins s σ H Q I ⟨F, ρ, As, k, rel, hf, q⟩ => by
  cases hf
  exact pts_nil.run pins s σ H Q I (q F H (Ext.refl rel.fh))⟩
def yes : Rho → Option Bool := fun _ => some true
theorem ts_yes : PTs X [] (ofT X.K cm yes) := ts_nil
theorem ts_one {t : Rho → Option Bool} (h : PT X e (ofT X.K cm t)) : PTs X [e] (ofT X.K cm t) := pts_one h
section
variable {elt tg iter : Expr} {ifs : List Expr} {scope : Scope} {own : List (Str × Nat)} {it : Rho → Option (List Dat)} {is : List Nat} {h : Dat → Rho → Option Rho} {t : Rho → Option Bool} {fe : Rho → Option Dat}
theorem e_lc {vs : List Nat} (hv : own.map (·.2) = vs) (hc : X.calm = true) (hN : X.N.Nodup) (hi : PI X tg iter (ofI X.K cm it)) (ok : BlkOk X.N X.env.scope scope own) (hsub : ∀ i ∈ is, i ∈ own.map (·.2))
    (hg : ∀ (s : Shared) (H : Hp) (C : Addr) (cl : List (Str × Addr)) (fp : List Addr), PG (X.blk s H scope (compEnvC scope cl C X.env) fp) tg (ofG X.K cm h is)) (ht : ∀ (s : Shared) (H : Hp) (C : Addr) (cl : List (Str × Addr)) (fp : List Addr), PTs (X.blk s H scope (compEnvC scope cl C X.env) fp) ifs (ofT X.K cm t))
    (he : ∀ (s : Shared) (H : Hp) (C : Addr) (cl : List (Str × Addr)) (fp : List Addr), PE (X.blk s H scope (compEnvC scope cl C X.env) fp) elt (ofE X.K cm fe)) (hs : ∀ x, foldedSetIterable iter X.env x = pure x := by intro _; rfl) :
    PE X (.ListComp elt [⟨tg, iter, ifs, 0⟩] scope pos) (ofE X.K cm (lcS it vs h t fe)) := by
  subst hv
  exact PE.imp (pe_lc hc hN hi ok hg ht he hs) (lc_of hsub)
theorem o_lc {vs : List Nat} (hv : own.map (·.2) = vs) (hc : X.calm = true) (hN : X.N.Nodup) (hi : PI X tg iter (ofI X.K cm it)) (ok : BlkOk X.N X.env.scope scope own) (hsub : ∀ i ∈ is, i ∈ own.map (·.2))
    (hg : ∀ (s : Shared) (H : Hp) (C : Addr) (cl : List (Str × Addr)) (fp : List Addr), PG (X.blk s H scope (compEnvC scope cl C X.env) fp) tg (ofG X.K cm h is)) (ht : ∀ (s : Shared) (H : Hp) (C : Addr) (cl : List (Str × Addr)) (fp : List Addr), PTs (X.blk s H scope (compEnvC scope cl C X.env) fp) ifs (ofT X.K cm t))
    (he : ∀ (s : Shared) (H : Hp) (C : Addr) (cl : List (Str × Addr)) (fp : List Addr), PE (X.blk s H scope (compEnvC scope cl C X.env) fp) elt (ofE X.K cm fe)) (hs : ∀ x, foldedSetIterable iter X.env x = pure x := by intro _; rfl) :
    PE X (.ListComp elt [⟨tg, iter, ifs, 0⟩] scope pos) (ofO X.K cm (lcO it vs h t fe)) := by
  subst hv
  exact PE.imp (pe_lc hc hN hi ok hg ht he hs) (lco_of hsub)
end
end
end
end Pq

namespace Pq
open PySem PySem.Spec PyProof.Rows L2
noncomputable section
section
variable {X : Cx} {cm : Str → Addr} {W : L2.WX} {e : Expr} {st : Stmt} {sts : List Stmt} {f : Rho → Option Dat} {o : Rho → Option SV} {b c : Rho → Res} {t : Rho → Option Bool} {pos : Pos}

/-! ### states -/
theorem Sta.set {K : PySem.W.Frag} {F0 H0 F H F1 H1 : Hp} {ρ : Rho} {σ : L2.St} {As : Nat → List Addr} (rel : Rel K cm F H σ ρ As) (x : Ext F0 H0 F H) (n : ∀ i, ∀ a ∈ As i, H0 a = none) (x1 : Ext F H F1 H1) {i : Nat} {v : V} {sv : SV} {A : List Addr} (r : RO K cm F1 H1 v sv A) (nd : A.Nodup) (nA : ∀ a ∈ A, H a = none) :
    Sta K cm F0 H0 (ρ.set i (some sv)) (σ.set i (some v)) H1 := ⟨F1, _, rel.setN x1 r nd nA, x.trans x1, fun j a h => by
  by_cases hj : j = i
  · simp only [if_pos hj] at h
    exact x.h.free (nA a h)
  · simp only [if_neg hj] at h
    exact n j a h⟩
theorem Sta.ext {K : PySem.W.Frag} {F0 H0 F H F1 H1 : Hp} {ρ : Rho} {σ : L2.St} {As : Nat → List Addr} (rel : Rel K cm F H σ ρ As) (x : Ext F0 H0 F H) (n : ∀ i, ∀ a ∈ As i, H0 a = none) (x1 : Ext F H F1 H1) : Sta K cm F0 H0 ρ σ H1 := ⟨F1, As, rel.ext x1, x.trans x1, n⟩

/-! ### assignments -/
def asgS (i : Nat) (f : Rho → Option Dat) : Rho → Res := fun ρ => match f ρ with
  | some d => .nx (ρ.set i (some (.fro d)))
  | none => .bad
def asgO (i : Nat) (o : Rho → Option SV) : Rho → Res := fun ρ => match o ρ with
  | some sv => .nx (ρ.set i (some sv))
  | none => .bad
theorem asg_of {i : Nat} : ∀ D σ H, ofS X.K cm W (asgS i f) D σ H → tAsg (ofE X.K cm f) (gName i) D σ H := fun D σ H ⟨F0, H0, ρ, ⟨F, As, rel, x, n⟩, q⟩ => by
  unfold asgS at q
  split at q
  · rename_i d e1
    exact ⟨F, ρ, As, d, rel, e1, fun v F1 H1 x1 r1 => q _ _ (Sta.set rel x n x1 (.fro r1) .nil (by simp))⟩
  · exact q.elim
theorem asgO_of {i : Nat} : ∀ D σ H, ofS X.K cm W (asgO i o) D σ H → tAsg (ofO X.K cm o) (gName i) D σ H := fun D σ H ⟨F0, H0, ρ, ⟨F, As, rel, x, n⟩, q⟩ => by
  unfold asgO at q
  split at q
  · rename_i d e1
    exact ⟨F, ρ, As, d, rel, e1, fun v F1 H1 A x1 r1 nd nA => q _ _ (Sta.set rel x n x1 r1 nd nA)⟩
  · exact q.elim
theorem p_set {i : Nat} {x : Str} {pos' : Pos} (hN : X.N.Nodup) (hi : X.N[i]? = some x) (hx : Loc X.env.scope x) (he : PE X e (ofE X.K cm f)) (hs : swapsWith e (some (.Name x pos')) pos.line X.env = pure false := by rfl) (hf : X.fn x = true ∨ X.env.scope.names.lookup x = some .local := by first | exact .inl rfl | exact .inr rfl | assumption) :
    PS X (.Assign [.Name x pos'] e pos) (ofS X.K cm W (asgS i f)) := PS.imp (ps_set hN hi hx he hs hf) asg_of
theorem p_setO {i : Nat} {x : Str} {pos' : Pos} (hN : X.N.Nodup) (hi : X.N[i]? = some x) (hx : Loc X.env.scope x) (he : PE X e (ofO X.K cm o)) (hs : swapsWith e (some (.Name x pos')) pos.line X.env = pure false := by rfl) (hf : X.fn x = true ∨ X.env.scope.names.lookup x = some .local := by first | exact .inl rfl | exact .inr rfl | assumption) :
    PS X (.Assign [.Name x pos'] e pos) (ofS X.K cm W (asgO i o)) := PS.imp (ps_set hN hi hx he hs hf) asgO_of
section
variable {elt tg iter : Expr} {ifs : List Expr} {scope : Scope} {own : List (Str × Nat)} {it : Rho → Option (List Dat)} {is : List Nat} {h : Dat → Rho → Option Rho} {tc : Rho → Option Bool} {fe : Rho → Option Dat} {i : Nat} {y : Str} {py spos : Pos}
/-- name = [..] on one line -/
theorem p_setLc {vs : List Nat} (hv : own.map (·.2) = vs) (hc : X.calm = true) (hN : X.N.Nodup) (hy : X.N[i]? = some y) (hyl : X.env.scope.names.lookup y = some .local) (hsw : swapsWith (.ListComp elt [⟨tg, iter, ifs, 0⟩] scope pos) (some (.Name y py)) spos.line X.env = pure true) (hi : PI X tg iter (ofI X.K cm it)) (ok : BlkOk X.N X.env.scope scope own) (hsub : ∀ i ∈ is, i ∈ own.map (·.2))
    (hg : ∀ (s : Shared) (H : Hp) (C : Addr) (cl : List (Str × Addr)) (fp : List Addr), PG (X.blk s H scope (compEnvC scope cl C X.env) fp) tg (ofG X.K cm h is)) (ht : ∀ (s : Shared) (H : Hp) (C : Addr) (cl : List (Str × Addr)) (fp : List Addr), PTs (X.blk s H scope (compEnvC scope cl C X.env) fp) ifs (ofT X.K cm tc))
    (he : ∀ (s : Shared) (H : Hp) (C : Addr) (cl : List (Str × Addr)) (fp : List Addr), PE (X.blk s H scope (compEnvC scope cl C X.env) fp) elt (ofE X.K cm fe)) (hs : ∀ x, foldedSetIterable iter X.env x = pure x := by intro _; rfl) :
    PS X (.Assign [.Name y py] (.ListComp elt [⟨tg, iter, ifs, 0⟩] scope pos) spos) (ofS X.K cm W (asgS i (lcS it vs h tc fe))) := by
  subst hv
  exact PS.imp (ps_setLc hc hN hy hyl hsw hi ok hg ht he hs) fun D σ H q => lc_of hsub σ H _ (asg_of D σ H q)
theorem p_setLcO {vs : List Nat} (hv : own.map (·.2) = vs) (hc : X.calm = true) (hN : X.N.Nodup) (hy : X.N[i]? = some y) (hyl : X.env.scope.names.lookup y = some .local) (hsw : swapsWith (.ListComp elt [⟨tg, iter, ifs, 0⟩] scope pos) (some (.Name y py)) spos.line X.env = pure true) (hi : PI X tg iter (ofI X.K cm it)) (ok : BlkOk X.N X.env.scope scope own) (hsub : ∀ i ∈ is, i ∈ own.map (·.2))
    (hg : ∀ (s : Shared) (H : Hp) (C : Addr) (cl : List (Str × Addr)) (fp : List Addr), PG (X.blk s H scope (compEnvC scope cl C X.env) fp) tg (ofG X.K cm h is)) (ht : ∀ (s : Shared) (H : Hp) (C : Addr) (cl : List (Str × Addr)) (fp : List Addr), PTs (X.blk s H scope (compEnvC scope cl C X.env) fp) ifs (ofT X.K cm tc))
    (he : ∀ (s : Shared) (H : Hp) (C : Addr) (cl : List (Str × Addr)) (fp : List Addr), PE (X.blk s H scope (compEnvC scope cl C X.env) fp) elt (ofE X.K cm fe)) (hs : ∀ x, foldedSetIterable iter X.env x = pure x := by intro _; rfl) :
    PS X (.Assign [.Name y py] (.ListComp elt [⟨tg, iter, ifs, 0⟩] scope pos) spos) (ofS X.K cm W (asgO i (lcO it vs h tc fe))) := by
  subst hv
  exact PS.imp (ps_setLc hc hN hy hyl hsw hi ok hg ht he hs) fun D σ H q => lco_of hsub σ H _ (asgO_of D σ H q)
end
/-- (a, b, ..) = e -/
def asgT (h : Dat → Rho → Option Rho) (f : Rho → Option Dat) : Rho → Res := fun ρ => match f ρ with
  | some d => match h d ρ with
    | some ρ' => .nx ρ'
    | none => .bad
  | none => .bad
theorem p_setT {tg : Expr} {h : Dat → Rho → Option Rho} {is : List Nat} (he : PE X e (ofE X.K cm f)) (hg : PG X tg (ofG X.K cm h is)) (hs : swapsWithSole [tg] e pos.line X.env = pure false := by rfl) (hw : swappedStores [tg] e X.env = pure none := by rfl)
    (h1 : (assignEach [tg] X.env).map (·.2) = [assign tg X.env] := by rfl) : PS X (.Assign [tg] e pos) (ofS X.K cm W (asgT h f)) := PS.imp (ps_asg he hg hs hw h1) fun D σ H ⟨F0, H0, ρ, ⟨F, As, rel, x, n⟩, q⟩ => by
  unfold asgT at q
  split at q
  · rename_i d e1
    split at q
    · rename_i ρ' e2
      exact ⟨F, ρ, As, d, rel, e1, fun v F1 H1 x1 r1 => ⟨F1, ρ, As, d, ρ', rel.ext x1, r1, e2, fun σ' As' rel' s' _ _ => q _ _ ⟨F1, As', rel', x.trans x1, fun i a h => n i a (s' i a h)⟩⟩⟩
    · exact q.elim
  · exact q.elim
def plusD : Dat → Dat → Option Dat
  | .int i, .int j => some (.int (i + j))
  | _, _ => none
/-- name += e, ints -/
theorem p_augAdd {i : Nat} {x : Str} {pos' : Pos} (hN : X.N.Nodup) (hi : X.N[i]? = some x) (hx : Loc X.env.scope x) (he : PE X e (ofE X.K cm f)) (hf : X.fn x = true ∨ X.env.scope.names.lookup x = some .local := by first | exact .inl rfl | exact .inr rfl | assumption) :
    PS X (.AugAssign (.Name x pos') .Add e pos) (ofS X.K cm W (asgS i (bin plusD (rd i) f))) := PS.imp (ps_aug hN hi hx he ip_add hf) fun D σ H ⟨F0, H0, ρ, ⟨F, As, rel, x, n⟩, q⟩ => by
  unfold asgS at q
  split at q
  · rename_i d e1
    obtain ⟨y, e2, e1⟩ := bind_some e1
    obtain ⟨z, e3, e1⟩ := bind_some e1
    obtain ⟨v, h1, r1⟩ := rel.rd e2
    refine ⟨v, h1, F, ρ, As, z, rel, e3, fun w F1 H1 x1 r2 => ?_⟩
    unfold plusD at e1
    split at e1
    · cases e1
      exact ⟨_, _, r1.int_inv, r2.int_inv, q _ _ (Sta.set (i := i) rel x n x1 (.fro (.int _)) .nil (by simp))⟩
    · cases e1
  · exact q.elim

/-! ### flow -/
def retS (f : Rho → Option Dat) : Rho → Res := fun ρ => match f ρ with
  | some d => .ret (.fro d)
  | none => .bad
def retO (f : Rho → Option SV) : Rho → Res := fun ρ => match f ρ with
  | some sv => .ret sv
  | none => .bad
theorem p_ret (he : PE X e (ofE X.K cm f)) : PS X (.Return (some e) pos) (ofS X.K cm W (retS f)) := PS.imp (ps_ret he) fun D σ H ⟨F0, H0, ρ, ⟨F, As, rel, x, n⟩, q⟩ => by
  unfold retS at q
  split at q
  · rename_i d e1
    exact ⟨F, ρ, As, d, rel, e1, fun v F1 H1 x1 r1 => q v F1 H1 [] (x.trans x1) (.fro r1) .nil (by simp)⟩
  · exact q.elim
theorem p_retO (he : PE X e (ofO X.K cm o)) : PS X (.Return (some e) pos) (ofS X.K cm W (retO o)) := PS.imp (ps_ret he) fun D σ H ⟨F0, H0, ρ, ⟨F, As, rel, x, n⟩, q⟩ => by
  unfold retO at q
  split at q
  · rename_i d e1
    exact ⟨F, ρ, As, d, rel, e1, fun v F1 H1 A x1 r1 nd nA => q v F1 H1 A (x.trans x1) r1 nd fun a h => x.h.free (nA a h)⟩
  · exact q.elim
def rtN : Rho → Res := fun _ => .ret (.fro .non)
theorem p_retN : PS X (.Return none pos) (ofS X.K cm W rtN) := PS.imp ps_retN fun D σ H ⟨F0, H0, ρ, ⟨F, As, rel, x, n⟩, q⟩ => q .non F H [] x (.fro .non) .nil (by simp)
def ifS (t : Rho → Option Bool) (b c : Rho → Res) : Rho → Res := fun ρ => match t ρ with
  | some true => b ρ
  | some false => c ρ
  | none => .bad
theorem p_if {tx : Expr} {as bs : List Stmt} (ht : PT X tx (ofT X.K cm t)) (ha : PSs X as (ofS X.K cm W b)) (hb : PSs X bs (ofS X.K cm W c)) : PS X (.If tx as bs pos) (ofS X.K cm W (ifS t b c)) := PS.imp (ps_if ht ha hb) fun D σ H ⟨F0, H0, ρ, ⟨F, As, rel, x, n⟩, q⟩ => by
  unfold ifS at q
  split at q
  · rename_i e1
    exact ⟨F, ρ, As, true, rel, e1, fun F1 H1 x1 => iteT ⟨F0, H0, ρ, Sta.ext rel x n x1, q⟩⟩
  · rename_i e1
    exact ⟨F, ρ, As, false, rel, e1, fun F1 H1 x1 => iteF ⟨F0, H0, ρ, Sta.ext rel x n x1, q⟩⟩
  · exact q.elim
def nilS : Rho → Res := fun ρ => .nx ρ
def seqS (b c : Rho → Res) : Rho → Res := fun ρ => match b ρ with
  | .nx ρ' => c ρ'
  | r => r
theorem p_nil : PSs X [] (ofS X.K cm W nilS) := PSs.imp pss_nil fun D σ H ⟨F0, H0, ρ, s, q⟩ => q σ H s
theorem p_cons (h1 : PS X st (ofS X.K cm W b)) (h2 : PSs X sts (ofS X.K cm W c)) : PSs X (st :: sts) (ofS X.K cm W (seqS b c)) := PSs.imp (pss_cons h1 h2) fun D σ H ⟨F0, H0, ρ, s, q⟩ => ⟨F0, H0, ρ, s, by
  unfold seqS at q
  cases hb : b ρ with
  | nx ρ' =>
    rw [hb] at q
    exact fun σ' H' s' => ⟨F0, H0, ρ', s', q⟩
  | ret sv => rw [hb] at q; exact q
  | brk ρ' => rw [hb] at q; exact q
  | cont ρ' => rw [hb] at q; exact q
  | exc n fs xs => rw [hb] at q; exact q
  | bad => rw [hb] at q; exact q⟩
theorem p_one (h1 : PS X st (ofS X.K cm W b)) : PSs X [st] (ofS X.K cm W b) := pss_one h1
def brkS : Rho → Res := fun ρ => .brk ρ
def contS : Rho → Res := fun ρ => .cont ρ
theorem p_pass : PS X (.Pass pos) (ofS X.K cm W nilS) := PS.imp ps_pass fun D σ H ⟨F0, H0, ρ, s, q⟩ => q σ H s
theorem p_break : PS X (.Break pos) (ofS X.K cm W brkS) := PS.imp ps_break fun D σ H ⟨F0, H0, ρ, s, q⟩ => q σ H s
theorem p_continue : PS X (.Continue pos) (ofS X.K cm W contS) := PS.imp ps_continue fun D σ H ⟨F0, H0, ρ, s, q⟩ => q σ H s
def drpS (o : Rho → Option SV) : Rho → Res := fun ρ => match o ρ with
  | some _ => .nx ρ
  | none => .bad
theorem p_expr (he : PE X e (ofO X.K cm o)) (hs : swapsWith e none pos.line X.env = pure false := by rfl) : PS X (.Expr e pos) (ofS X.K cm W (drpS o)) := PS.imp (ps_expr he hs) fun D σ H ⟨F0, H0, ρ, ⟨F, As, rel, x, n⟩, q⟩ => by
  unfold drpS at q
  split at q
  · rename_i d e1
    exact ⟨F, ρ, As, d, rel, e1, fun v F1 H1 A x1 r1 nd nA => q _ _ (Sta.ext rel x n x1)⟩
  · exact q.elim
/-- a place is settled ahead of a statement -/
def frzTo (i : Nat) (b : Rho → Res) : Rho → Res := fun ρ => b (frzAt i ρ)
theorem frz_sta {K : PySem.W.Frag} {F0 H0 H : Hp} {ρ : Rho} {σ : L2.St} (i : Nat) (s : Sta K cm F0 H0 ρ σ H) : Sta K cm F0 H0 (frzAt i ρ) σ H := by
  obtain ⟨F, As, rel, x, n⟩ := s
  obtain ⟨p1, p2⟩ := plus_ext rel i
  refine ⟨plus F H (As i), _, rel.frz i, ⟨x.f.trans p1, x.h, p2, fun a o h z => ?_⟩, fun j a h => ?_⟩
  · by_cases q : a ∈ As i
    · exact n i a q
    · rw [plus_out q] at h
      exact x.new a o h z
  · by_cases hj : j = i
    · simp only [if_pos hj] at h
      simp at h
    · simp only [if_neg hj] at h
      exact n j a h
theorem p_frz (i : Nat) (h : PS X st (ofS X.K cm W b)) : PS X st (ofS X.K cm W (frzTo i b)) := PS.imp h fun D σ H ⟨F0, H0, ρ, s, q⟩ => ⟨F0, H0, frzAt i ρ, frz_sta i s, q⟩
/-- a place's own object is looked at as data, for a while: a test, or what is no object -/
def lookT (i : Nat) (t : Rho → Option Bool) : Rho → Option Bool := fun ρ => t (frzAt i ρ)
theorem t_look {tx : Expr} (i : Nat) (h : PT X tx (ofT X.K cm t)) : PT X tx (ofT X.K cm (lookT i t)) := PT.imp h fun σ H Q ⟨F, ρ, As, k, rel, hf, q⟩ =>
  ⟨_, _, _, k, rel.frz i, hf, fun F1 H1 x1 => q F H1 ⟨Same.refl F, x1.h, rel.fh.trans x1.h, fun a o h z => by rw [h] at z; cases z⟩⟩
def isScal : Dat → Bool
  | .non => true | .bl _ => true | .int _ => true | .str _ => true
  | _ => false
def lookE (i : Nat) (f : Rho → Option Dat) : Rho → Option Dat := fun ρ => (f (frzAt i ρ)).bind fun d => if isScal d = true then some d else none
theorem R.scal {K : PySem.W.Frag} {F F' : Hp} {v : V} {d : Dat} (h : R K cm F v d) (s : isScal d = true) : R K cm F' v d := by
  cases h with
  | non => exact .non
  | bl b => exact .bl b
  | int i => exact .int i
  | str x => exact .str x
  | _ => cases s
theorem e_look (i : Nat) (h : PE X e (ofE X.K cm f)) : PE X e (ofE X.K cm (lookE i f)) := PE.imp h fun σ H Q ⟨F, ρ, As, d, rel, hf, q⟩ => by
  obtain ⟨d', e1, hf⟩ := bind_some hf
  obtain ⟨s, rfl⟩ := ite_some hf
  exact ⟨_, _, _, d', rel.frz i, e1, fun v F1 H1 x1 r1 => q v F H1 ⟨Same.refl F, x1.h, rel.fh.trans x1.h, fun a o h z => by rw [h] at z; cases z⟩ (r1.scal s)⟩

/-! ### what is one's own is changed -/
theorem Rel.upd {K : PySem.W.Frag} {F H : Hp} {σ : L2.St} {ρ : Rho} {As : Nat → List Addr} (rel : Rel K cm F H σ ρ As) {i : Nat} {a : Addr} {o : HO} {v : V} {sv sv' : SV} (ha : a ∈ As i) (hi : ρ[i]? = some (some sv)) (hv : σ[i]? = some (some v)) (r : RO K cm F (upd H a o) v sv' (As i)) : Rel K cm F (upd H a o) σ (ρ.set i (some sv')) As where
  len := by rw [List.length_set]; exact rel.len
  fh := fun b u h => by
    have : b ≠ a := fun z => by
      rw [z, (rel.own i a ha).1] at h
      cases h
    rw [upd_ne this]
    exact rel.fh b u h
  at_ := fun j sv1 h => by
    by_cases hj : i = j
    · subst hj
      have hl : i < ρ.length := (List.getElem?_eq_some_iff.mp hi).1
      rw [List.getElem?_set_self hl] at h
      cases h
      exact ⟨v, hv, r⟩
    · rw [List.getElem?_set_ne hj] at h
      obtain ⟨w, h1, h2⟩ := rel.at_ j sv1 h
      exact ⟨w, h1, h2.out (rel.sep i j hj a ha)⟩
  nd := rel.nd
  sep := rel.sep
  own := fun j b hb => by
    obtain ⟨n, u, q⟩ := rel.own j b hb
    refine ⟨n, ?_⟩
    by_cases hab : b = a
    · subst hab
      exact ⟨o, upd_same⟩
    · exact ⟨u, by rw [upd_ne hab]; exact q⟩
theorem ext_upd {F0 H0 F H : Hp} {a : Addr} {o : HO} (x : Ext F0 H0 F H) (h1 : F a = none) (h2 : H0 a = none) : Ext F0 H0 F (upd H a o) :=
  ⟨x.f, fun b u h => by rw [upd_ne (ne_of_none h h2)]; exact x.h b u h, fun b u h => by rw [upd_ne (ne_of_none h h1)]; exact x.fh b u h, x.new⟩
theorem RO.ol_inv {K : PySem.W.Frag} {F H : Hp} {v : V} {xs : List SV} {A : List Addr} (h : RO K cm F H v (.ol xs) A) : ∃ a vs B, v = .ref a ∧ A = a :: B ∧ F a = none ∧ H a = some (.lst vs) ∧ ROs K cm F H vs xs B := by
  cases h with
  | ol n h r => exact ⟨_, _, _, rfl, rfl, n, h, r⟩
theorem ROs.snoc {K : PySem.W.Frag} {F H : Hp} {w : V} {d : Dat} (r : R K cm F w d) : ∀ {vs : List V} {xs : List SV} {A : List Addr}, ROs K cm F H vs xs A → ROs K cm F H (vs ++ [w]) (xs ++ [.fro d]) A
  | _, _, _, .nil => .cons (A := []) (B := []) (.fro r) .nil
  | _, _, _, .cons q t => .cons q (ROs.snoc r t)
/-- name.append(e) -/
def pushS (i : Nat) (f : Rho → Option Dat) : Rho → Res := fun ρ => match f ρ with
  | some d => match ρ[i]? with
    | some (some (.ol xs)) => @ite _ (xs.length < sizeLine) (Classical.propDecidable _) (.nx (ρ.set i (some (.ol (xs ++ [.fro d]))))) .bad
    | _ => .bad
  | none => .bad
theorem p_push (i : Nat) {x : Str} {px apos cpos : Pos} {a : Expr} (hv : PE X (.Name x px) (tVar i)) (ha : PE X a (ofE X.K cm f))
    (hs : swapsWith (.Call (.Attribute (.Name x px) "append" apos) [a] [] cpos) none pos.line X.env = pure false := by rfl)
    (hbase : attributeBase (.Name x px) "append" X.env (eval (.Name x px) X.env) = eval (.Name x px) X.env := by rfl)
    (hfew : ((backTo cpos (starEach [a] X.env)).all (fun x => !x.1) && (backToKw cpos (keywordEach [] X.env)).all (fun x => x.1.isSome) && decide ([a].length + ([] : List Keyword).length + (if ([] : List Keyword).isEmpty then 0 else 1) < 30)) = true := by rfl)
    (hline : (apos.endLine == cpos.line) = true := by rfl) (hst : starEach [a] X.env = (false, eval a X.env) :: starEach [] X.env := by rfl) (hplain : (backTo cpos (starEach [] X.env)).any (·.1) = false := by rfl) :
    PS X (.Expr (.Call (.Attribute (.Name x px) "append" apos) [a] [] cpos) pos) (ofS X.K cm W (pushS i f)) :=
  PS.imp (ps_expr (pe_bm PySem.F.plainAttrs_list PySem.F.slot_list_append PySem.F.type_list_append mt_append hv (pa_cons ha pa_nil hst) hbase hfew hline hst hplain) hs) fun D σ H ⟨F0, H0, ρ, ⟨F, As, rel, x, n⟩, q⟩ => by
    unfold pushS at q
    split at q
    case h_2 => exact q.elim
    rename_i d e1
    split at q
    case h_2 => exact q.elim
    rename_i xs e2
    split at q
    case isFalse => exact q.elim
    rename_i hz
    obtain ⟨v, h1, r1⟩ := rel.at_ i _ e2
    obtain ⟨l, vs, B, rfl, eA, nF, hH, rs⟩ := r1.ol_inv
    refine ⟨.ref l, h1, .inl ⟨rfl, vs, .inl (.inl hH)⟩, F, ρ, As, d, rel, e1, fun w F1 H1 x1 r2 => ?_⟩
    have hH1 := x1.h _ _ hH
    refine ⟨l, vs, w, rfl, rfl, hH1, by rw [rs.length]; exact hz, ?_⟩
    have lA : l ∈ As i := by rw [eA]; exact List.mem_cons_self
    have hF1 := ext_none x1 hH nF
    refine q _ _ ⟨F1, As, (rel.ext x1).upd (o := .lst (vs ++ [w])) lA e2 h1 ?_, ext_upd (x.trans x1) hF1 (n i l lA), n⟩
    rw [eA]
    refine .ol hF1 upd_same (ROs.snoc r2 ((rs.ext x1).out ?_))
    have := rel.nd i
    rw [eA] at this
    exact (List.nodup_cons.mp this).1

/-! ### loops -/
def forGo (h : Dat → Rho → Option Rho) (b : Rho → Res) : List Dat → Rho → Res
  | [], ρ => .nx ρ
  | d :: ds, ρ => match h d ρ with
    | none => .bad
    | some ρ1 => match b ρ1 with
      | .nx ρ' => forGo h b ds ρ'
      | .cont ρ' => forGo h b ds ρ'
      | .brk ρ' => .nx ρ'
      | r => r
def forS (it : Rho → Option (List Dat)) (h : Dat → Rho → Option Rho) (b : Rho → Res) : Rho → Res := fun ρ => match it ρ with
  | none => .bad
  | some ds => forGo h b ds ρ
theorem post_go {K : PySem.W.Frag} {F0 H0 : Hp} {D : Ends} {r : Res} {P : L2.St → Hp → Prop} {Z : Rho → Res} (h : Post K cm W F0 H0 D (match r with
      | .nx ρ' => Z ρ'
      | .cont ρ' => Z ρ'
      | .brk ρ' => .nx ρ'
      | r => r)) (hP : ∀ ρ' σ' H', (r = .nx ρ' ∨ r = .cont ρ') → Sta K cm F0 H0 ρ' σ' H' → P σ' H') : Post K cm W F0 H0 { D with nx := P, ct := P, bk := D.nx } r := by
  cases r with
  | nx ρ' => exact fun σ' H' s => hP ρ' σ' H' (.inl rfl) s
  | cont ρ' => exact fun σ' H' s => hP ρ' σ' H' (.inr rfl) s
  | brk ρ' => exact fun σ' H' s => h σ' H' s
  | ret sv => exact h
  | exc n fs xs => exact h
  | bad => exact h
theorem p_for {tg iter : Expr} {body : List Stmt} {it : Rho → Option (List Dat)} {h : Dat → Rho → Option Rho} {is : List Nat} (hp : PassesOwn (model X.prog X.w) X.A X.env X.xe) (hc : X.calm = true) (hi : PI X tg iter (ofI X.K cm it)) (hg : PG X tg (ofG X.K cm h is)) (hb : PSs X body (ofS X.K cm W b))
    (hs : ∀ x, foldedSetIterable iter X.env x = pure x := by intro _; rfl) : PS X (.For tg iter body [] pos) (ofS X.K cm W (forS it h b)) := PS.imp (ps_for hp hc hi hg hb hs) fun D σ H ⟨F0, H0, ρ, ⟨F, As, rel, x, n⟩, q⟩ => by
  unfold forS at q
  split at q
  · exact q.elim
  rename_i ds e1
  refine ⟨F, ρ, As, ds, rel, e1, fun F1 H1 J x1 hJ => ?_⟩
  refine ⟨fun i m σ2 H2 => m = ds.length - i ∧ i ≤ ds.length ∧ ∃ ρ2 F2 As2, Rel X.K cm F2 H2 σ2 ρ2 As2 ∧ Ext F0 H0 F2 H2 ∧ Same F1 F2 ∧ (∀ i, ∀ a ∈ As2 i, H0 a = none) ∧ Post X.K cm W F0 H0 D (forGo h b (ds.drop i) ρ2),
    ⟨ds.length, by simp, Nat.zero_le _, ρ, F1, As, rel.ext x1, x.trans x1, Same.refl F1, n, q⟩, ?_⟩
  rintro i m σ2 H2 ⟨rfl, hi, ρ2, F2, As2, rel2, x2, s2, n2, q2⟩
  by_cases hlt : i < ds.length
  · refine .inr ⟨hJ.go i F2 H2 s2 rel2.fh hlt, fun σ' H' => ∃ ρ2 F3 As3, Rel X.K cm F3 H' σ' ρ2 As3 ∧ Ext F0 H0 F3 H' ∧ Same F1 F3 ∧ (∀ i, ∀ a ∈ As3 i, H0 a = none) ∧ Post X.K cm W F0 H0 D (forGo h b (ds.drop (i + 1)) ρ2), fun σ' H' z => ⟨ds.length - (i + 1), by omega, rfl, hlt, z⟩, fun v H' hy => ?_⟩
    obtain ⟨F3, d, x3, ed, rd⟩ := hJ.yld i F2 H2 v H' s2 rel2.fh hlt hy
    have edd : ds[i] = d := by rw [List.getElem?_eq_getElem hlt] at ed; exact Option.some.inj ed
    rw [List.drop_eq_getElem_cons hlt, edd, forGo] at q2
    split at q2
    · exact q2.elim
    rename_i ρ3 e3
    refine ⟨F3, ρ2, As2, d, ρ3, rel2.ext x3, rd, e3, fun σ4 As4 rel4 s4 _ _ => ?_⟩
    have x03 := x2.trans x3
    have n4 : ∀ i, ∀ a ∈ As4 i, H0 a = none := fun i a z => n2 i a (s4 i a z)
    -- F0, H0 stand for the entry; the settled part must keep F1: it is taken as the entry of the turn
    have bodyF : ∃ F0' : Hp, F0' = F3 := ⟨F3, rfl⟩
    refine ⟨F3, H0, ρ3, ⟨F3, As4, rel4, ⟨Same.refl F3, x03.h, rel4.fh, fun a o z w => by rw [z] at w; cases w⟩, n4⟩, ?_⟩
    have up : ∀ {ρ' σ' H''}, Sta X.K cm F3 H0 ρ' σ' H'' → ∃ F5 As5, Rel X.K cm F5 H'' σ' ρ' As5 ∧ Ext F0 H0 F5 H'' ∧ Same F1 F5 ∧ ∀ i, ∀ a ∈ As5 i, H0 a = none := fun {ρ' σ' H''} ⟨F5, As5, rel5, x5, n5⟩ =>
      ⟨F5, As5, rel5, ⟨x03.f.trans x5.f, x5.h, x5.fh, fun a o z w => by
        cases q : F3 a with
        | some u => exact x03.new a u q w
        | none => exact x5.new a o z q⟩, (s2.trans x3.f).trans x5.f, n5⟩
    cases hr : b ρ3 with
    | nx ρ' =>
      rw [hr] at q2
      exact fun σ' H'' s => by
        obtain ⟨F5, As5, rel5, x5, s5, n5⟩ := up s
        exact ⟨ρ', F5, As5, rel5, x5, s5, n5, q2⟩
    | cont ρ' =>
      rw [hr] at q2
      exact fun σ' H'' s => by
        obtain ⟨F5, As5, rel5, x5, s5, n5⟩ := up s
        exact ⟨ρ', F5, As5, rel5, x5, s5, n5, q2⟩
    | brk ρ' =>
      rw [hr] at q2
      exact fun σ' H'' s => by
        obtain ⟨F5, As5, rel5, x5, s5, n5⟩ := up s
        exact q2 σ' H'' ⟨F5, As5, rel5, x5, n5⟩
    | ret sv =>
      rw [hr] at q2
      exact fun v F' H'' A x5 r nd nA => q2 v F' H'' A ⟨x03.f.trans x5.f, x5.h, x5.fh, fun a o z w => by
        cases q : F3 a with
        | some u => exact x03.new a u q w
        | none => exact x5.new a o z q⟩ r nd nA
    | exc nm fs xs =>
      rw [hr] at q2
      exact fun σ' => by
        obtain ⟨z1, z2⟩ := q2 σ'
        have lift : ∀ {F' H''}, Ext F3 H0 F' H'' → Ext F0 H0 F' H'' := fun {F' H''} x5 => ⟨x03.f.trans x5.f, x5.h, x5.fh, fun a o z w => by
          cases q : F3 a with
          | some u => exact x03.new a u q w
          | none => exact x5.new a o z q⟩
        exact ⟨fun hn F' H'' x5 => z1 hn F' H'' (lift x5), fun hn F' H'' d vs x5 => z2 hn F' H'' d vs (lift x5)⟩
    | bad =>
      rw [hr] at q2
      exact q2.elim
  · have ei : i = ds.length := by omega
    subst ei
    rw [List.drop_length, forGo] at q2
    exact .inl ⟨hJ.stop _ F2 H2 s2 rel2.fh (Nat.le_refl _), q2 σ2 H2 ⟨F2, As2, rel2, x2, n2⟩⟩
def whileS (t : Rho → Option Bool) (b : Rho → Res) : Nat → Rho → Res
  | 0, _ => .bad
  | n + 1, ρ => match t ρ with
    | none => .bad
    | some false => .nx ρ
    | some true => match b ρ with
      | .nx ρ' => whileS t b n ρ'
      | .cont ρ' => whileS t b n ρ'
      | .brk ρ' => .nx ρ'
      | r => r
theorem p_while (N : Nat) {tx : Expr} {body : List Stmt} (hp : PassesOwn (model X.prog X.w) X.A X.env X.xe) (ht : PT X tx (ofT X.K cm t)) (hb : PSs X body (ofS X.K cm W b)) : PS X (.While tx body [] pos) (ofS X.K cm W (whileS t b N)) := PS.imp (ps_while hp ht hb) fun D σ H ⟨F0, H0, ρ, s, q⟩ => by
  refine ⟨fun m σ2 H2 => ∃ ρ2, Sta X.K cm F0 H0 ρ2 σ2 H2 ∧ Post X.K cm W F0 H0 D (whileS t b m ρ2), ⟨N, ρ, s, q⟩, ?_⟩
  rintro m σ2 H2 ⟨ρ2, ⟨F, As, rel, x, n⟩, q2⟩
  cases m with
  | zero => exact q2.elim
  | succ m =>
    rw [whileS] at q2
    split at q2
    · exact q2.elim
    · rename_i e1
      exact ⟨F, ρ2, As, false, rel, e1, fun F1 H1 x1 => q2 _ _ (Sta.ext rel x n x1)⟩
    · rename_i e1
      refine ⟨F, ρ2, As, true, rel, e1, fun F1 H1 x1 => ⟨fun σ' H' => ∃ ρ2, Sta X.K cm F0 H0 ρ2 σ' H' ∧ Post X.K cm W F0 H0 D (whileS t b m ρ2), fun σ' H' z => ⟨m, Nat.lt_succ_self m, z⟩, F0, H0, ρ2, Sta.ext rel x n x1, ?_⟩⟩
      cases hr : b ρ2 with
      | nx ρ' => rw [hr] at q2; exact fun σ' H'' s => ⟨ρ', s, q2⟩
      | cont ρ' => rw [hr] at q2; exact fun σ' H'' s => ⟨ρ', s, q2⟩
      | brk ρ' => rw [hr] at q2; exact fun σ' H'' s => q2 σ' H'' s
      | ret sv => rw [hr] at q2; exact q2
      | exc nm fs xs => rw [hr] at q2; exact q2
      | bad => rw [hr] at q2; exact q2
end

/-! ### a def -/
def startR (n : Nat) (ds : List Dat) : Rho := ds.map (fun d => some (.fro d)) ++ List.replicate (n - ds.length) none
def fnS (n m : Nat) (b : Rho → Res) (ds : List Dat) : Option Out := if ds.length = m then match b (startR n ds) with
    | .ret sv => some (.ok sv)
    | .nx _ => some (.ok (.fro .non))
    | _ => none
  else none
theorem rel_start {K : PySem.W.Frag} {cm : Str → Addr} {F H : Hp} {N : List Str} {vs : List V} {ds : List Dat} (e : Same F H) (r : Rs K cm F vs ds) : Rel K cm F H (L2.start N vs) (startR N.length ds) (fun _ => []) where
  len := by
    unfold L2.start startR
    rw [List.length_append, List.length_append, List.length_map, List.length_map, List.length_replicate, List.length_replicate, r.length]
  fh := e
  at_ := fun i sv h => by
    unfold startR at h
    unfold L2.start
    by_cases hi : i < ds.length
    · rw [List.getElem?_append_left (by rw [List.length_map]; exact hi), List.getElem?_map, List.getElem?_eq_getElem hi] at h
      cases h
      obtain ⟨v, h1, h2⟩ := r.get (List.getElem?_eq_getElem hi)
      refine ⟨v, ?_, .fro h2⟩
      rw [List.getElem?_append_left (by rw [List.length_map, r.length]; exact hi), List.getElem?_map, h1]
      rfl
    · rw [List.getElem?_append_right (by rw [List.length_map]; omega), List.getElem?_replicate] at h
      split at h <;> cases h
  nd := fun _ => .nil
  sep := fun _ _ _ a h => by simp at h
  own := fun _ a h => by simp at h
section
variable {P : Program} {w : World} {K : PySem.W.Frag} {mg : Str → Option Value} {base : Heap} {cm : Str → Addr}
theorem fn_nox {x qual : Str} {st : Stmt} {f : Addr} {fd : FuncData} {N ps : List Str} {k : Nat} {b : Rho → Res} (F : L2.Fun K x qual st f fd) (S : FnScope N ps (defScope st))
    (hb : ∀ (cdv : Value) (A : Around) (outer : List Env) (s : Shared) (H : Hp) (E : XK) (W : L2.WX), Room k (A.deeper (envOfC qual (defScope st) s.heap.objs.size f cdv)) → PSs (cxOf (L2.CX P w) P w K mg base N qual (defScope st) f cdv A outer s H E).nox (defBody st) (ofS K cm W b)) :
    FnOk P w K mg base (L2.CX P w) (k + 1) f fd ps (spX K cm (fnS N.length ps.length b)) := by
  refine F.okX S (fun vs H Q E ⟨F, ds, o, e, rs, hg, k⟩ => ?_) fun cdv A outer s H vs Q E hr ⟨F, ds, o, e, rs, hg, k⟩ => ?_
  · unfold fnS at hg
    split at hg
    · rename_i c
      rw [rs.length, c]
    · cases hg
  · refine ⟨_, PSs.nox (hb cdv A outer s H E (fun _ _ _ _ => False) hr), F, H, startR N.length ds, ⟨F, _, rel_start e rs, Ext.refl e, fun _ a h => by simp at h⟩, ?_⟩
    unfold fnS at hg
    split at hg
    · split at hg
      · rename_i sv e1
        cases hg
        rw [e1]
        exact fun v F' H' A x r nd nA => k v F' H' A x r nd nA
      · rename_i ρ' e1
        cases hg
        rw [e1]
        rintro σ' H' ⟨F1, As, rel, x, n⟩
        exact k .non F1 H' [] x (.fro .non) .nil (by simp)
      · cases hg
    · cases hg
end
end
end Pq

namespace Pq
open PySem PySem.Spec PyProof.Rows L2
noncomputable section
section
variable {X : Cx} {cm : Str → Addr} {W : L2.WX} {a b e : Expr} {fa fb f : Rho → Option Dat} {pos : Pos}
/-! ### a[b] of a list, a tuple, a text, a dict -/
def rIxDk : R2 := fun x y H Q => ∃ q v, x = .ref q ∧ DGet H q y (some v) ∧ Q v H
theorem ix_dk (hu : X.A.units + 1 < cLine) : IxR X rIxDk := by
  intro value slice pins s σ H x y v u Q I rx ry ⟨q, w, ex, g, k⟩ hs
  subst ex
  cases rx
  exact tail_any (dict_typeIs I g) PySem.F.slot_dict_getitem.lookup (d_getItem hu I g ry fun w' s' I' r' => ⟨w, H, I', r', k⟩) hs
def subD' : Dat → Dat → Option Dat
  | .dct ks xs, k => (isK k).bind fun k => look ks xs k
  | d, k => ixD d k
theorem look_valV {K : PySem.W.Frag} {F : Hp} {k : Key} {x : Dat} : ∀ {kvs : List (Key × V)} {xs : List Dat}, Rs K cm F (kvs.map (·.2)) xs → look (kvs.map (·.1)) xs k = some x → ∃ v, valV kvs k = some v ∧ R K cm F v x
  | [], _, _, h => by simp [look] at h
  | p :: kvs, [], r, _ => by cases r
  | p :: kvs, x' :: xs, .cons r t, h => by
    rw [List.map_cons, look] at h
    by_cases hk : p.1 = k
    · rw [if_pos hk] at h
      cases h
      exact ⟨p.2, valV_pos hk, r⟩
    · rw [if_neg hk] at h
      obtain ⟨v, h1, h2⟩ := look_valV t h
      exact ⟨v, by rw [valV_neg hk]; exact h1, h2⟩
theorem od_sub' : OpD X cm (fun x y H Q => rIx X.K x y H Q ∨ rIxDk x y H Q) subD' := fun F H x y a b d Q e r1 r2 hg k => by
  unfold subD' at hg
  split at hg
  · obtain ⟨key, e1, hg⟩ := bind_some hg
    obtain ⟨p, kvs, rfl, g, ek, z⟩ := r1.dct_inv
    rw [← ek] at hg
    obtain ⟨v, h1, h2⟩ := look_valV z hg
    have ev := isK_V r2 e1
    subst ev
    exact .inr ⟨p, v, rfl, .inl ⟨kvs, key, same_rd e g, rfl, h1.symm⟩, k v F H (Ext.refl e) h2⟩
  · exact .inl (od_ix F H x y _ _ d Q e r1 r2 hg k)
theorem e_sub' (hu : X.A.units + 1 < cLine) (ha : PE X a (ofE X.K cm fa)) (hb : PE X b (ofE X.K cm fb)) (hs : PlainIx b := by exact fun _ _ => rfl) : PE X (.Subscript a b pos) (ofE X.K cm (bin subD' fa fb)) := PE.imp (pe_ix (ix_seq.or (ix_dk hu)) ha hb hs) (bin_of od_sub')
/-! ### a list or a tuple, walked -/
def itS (f : Rho → Option Dat) : Rho → Option (List Dat) := fun ρ => (f ρ).bind fun
  | .lst xs => some xs
  | .scr xs => some xs
  | .tup xs => some xs
  | _ => none
theorem i_seq {tg : Expr} (ha : PE X a (ofE X.K cm fa)) : PI X tg a (ofI X.K cm (itS fa)) := ⟨fun pins s σ H Q I ⟨F, ρ, As, ds, rel, hf, q⟩ => by
  obtain ⟨d, e1, hf⟩ := bind_some hf
  cases d with
  | lst xs => exact (i_list (tg := tg) ha).run pins s σ H Q I ⟨F, ρ, As, ds, rel, by unfold itL; rw [e1]; exact hf, q⟩
  | scr xs => exact (i_list (tg := tg) ha).run pins s σ H Q I ⟨F, ρ, As, ds, rel, by unfold itL; rw [e1]; exact hf, q⟩
  | tup xs => exact (i_tup (tg := tg) ha).run pins s σ H Q I ⟨F, ρ, As, ds, rel, by unfold itT; rw [e1]; exact hf, q⟩
  | _ => cases hf⟩
/-! ### name[k].append(e) -/
theorem RO.tp_inv {K : PySem.W.Frag} {F H : Hp} {v : V} {xs : List SV} {A : List Addr} (h : RO K cm F H v (.tp xs) A) : ∃ a vs B, v = .ref a ∧ A = a :: B ∧ F a = none ∧ H a = some (.tup vs) ∧ ROs K cm F H vs xs B := by
  cases h with
  | tp n h r => exact ⟨_, _, _, rfl, rfl, n, h, r⟩
theorem ROs.at_ {K : PySem.W.Frag} {F H : Hp} {x : SV} : ∀ {vs : List V} {xs : List SV} {A : List Addr} {k : Nat}, ROs K cm F H vs xs A → xs[k]? = some x → A.Nodup → ∃ v B, vs[k]? = some v ∧ RO K cm F H v x B ∧ (∀ b ∈ B, b ∈ A) ∧ B.Nodup ∧ ∀ (F1 H1 : Hp) (b : Addr) (o : HO) (x' : SV), Ext F H F1 H1 → b ∈ B → RO K cm F1 (upd H1 b o) v x' B → ROs K cm F1 (upd H1 b o) vs (xs.set k x') A
  | _, _, _, 0, .cons (A := A) (B := B) r t, e, nd => by
    simp at e
    subst e
    rw [List.nodup_append] at nd
    exact ⟨_, A, rfl, r, fun b h => List.mem_append_left _ h, nd.1, fun F1 H1 b o x' x1 hb r' => .cons r' ((t.ext x1).out fun z => nd.2.2 b hb b z rfl)⟩
  | _, _, _, k + 1, .cons (A := A) (B := B) r t, e, nd => by
    rw [List.nodup_append] at nd
    obtain ⟨v, C, h1, h2, h3, h4, h5⟩ := ROs.at_ (k := k) t (by simpa using e) nd.2.1
    exact ⟨v, C, by simpa using h1, h2, fun b h => List.mem_append_right _ (h3 b h), h4, fun F1 H1 b o x' x1 hb r' => .cons ((r.ext x1).out fun z => nd.2.2 b z b (h3 b hb) rfl) (h5 F1 H1 b o x' x1 hb r')⟩
  | _, _, _, _, .nil, e, _ => by simp at e
def putAt (sv : SV) (k : Nat) (x : SV) : Option SV := match sv with
  | .tp xs => some (.tp (xs.set k x))
  | .ol xs => some (.ol (xs.set k x))
  | _ => none
def getAt (sv : SV) (k : Nat) : Option SV := match sv with
  | .tp xs => xs[k]?
  | .ol xs => xs[k]?
  | _ => none
theorem RO.at_ {K : PySem.W.Frag} {F H : Hp} {v : V} {sv x : SV} {A : List Addr} {k : Nat} (r : RO K cm F H v sv A) (h : getAt sv k = some x) (nd : A.Nodup) : ∃ a w B, v = .ref a ∧ ((∃ vs, H a = some (.tup vs) ∧ vs[k]? = some w) ∨ ∃ vs, H a = some (.lst vs) ∧ vs[k]? = some w) ∧ RO K cm F H w x B ∧ (∀ b ∈ B, b ∈ A) ∧ B.Nodup ∧
    ∀ (F1 H1 : Hp) (b : Addr) (o : HO) (x' : SV), Ext F H F1 H1 → b ∈ B → RO K cm F1 (upd H1 b o) w x' B → ∃ sv', putAt sv k x' = some sv' ∧ RO K cm F1 (upd H1 b o) v sv' A := by
  unfold getAt at h
  split at h
  · obtain ⟨a, vs, B, rfl, rfl, n, hH, rs⟩ := r.tp_inv
    rw [List.nodup_cons] at nd
    obtain ⟨w, C, h1, h2, h3, h4, h5⟩ := rs.at_ h nd.2
    refine ⟨a, w, C, rfl, .inl ⟨vs, hH, h1⟩, h2, fun b z => List.mem_cons_of_mem _ (h3 b z), h4, fun F1 H1 b o x' x1 hb r' => ⟨_, rfl, .tp (ext_none x1 hH n) ?_ (h5 F1 H1 b o x' x1 hb r')⟩⟩
    rw [upd_ne (fun z => nd.1 (by rw [z]; exact h3 b hb))]
    exact x1.h _ _ hH
  · obtain ⟨a, vs, B, rfl, rfl, n, hH, rs⟩ := r.ol_inv
    rw [List.nodup_cons] at nd
    obtain ⟨w, C, h1, h2, h3, h4, h5⟩ := rs.at_ h nd.2
    refine ⟨a, w, C, rfl, .inr ⟨vs, hH, h1⟩, h2, fun b z => List.mem_cons_of_mem _ (h3 b z), h4, fun F1 H1 b o x' x1 hb r' => ⟨_, rfl, .ol (ext_none x1 hH n) ?_ (h5 F1 H1 b o x' x1 hb r')⟩⟩
    rw [upd_ne (fun z => nd.1 (by rw [z]; exact h3 b hb))]
    exact x1.h _ _ hH
  · cases h
def pushAt (i k : Nat) (f : Rho → Option Dat) : Rho → Res := fun ρ => match f ρ with
  | some d => match ρ[i]? with
    | some (some sv) => match getAt sv k with
      | some (.ol xs) => @ite _ (xs.length < sizeLine) (Classical.propDecidable _) (match putAt sv k (.ol (xs ++ [.fro d])) with
        | some sv' => .nx (ρ.set i (some sv'))
        | none => .bad) .bad
      | _ => .bad
    | _ => .bad
  | none => .bad
theorem p_pushAt (i k : Nat) {x : Str} {px pc pk apos cpos : Pos} {jk : Nat} (hv : PE X (.Name x px) (tVar i)) (ha : PE X a (ofE X.K cm f)) (hix : PlainIx (.Constant (.int (k : Int)) jk pc) := by exact fun _ _ => rfl)
    (hs : swapsWith (.Call (.Attribute (.Subscript (.Name x px) (.Constant (.int (k : Int)) jk pc) pk) "append" apos) [a] [] cpos) none pos.line X.env = pure false := by rfl)
    (hbase : attributeBase (.Subscript (.Name x px) (.Constant (.int (k : Int)) jk pc) pk) "append" X.env (eval (.Subscript (.Name x px) (.Constant (.int (k : Int)) jk pc) pk) X.env) = eval (.Subscript (.Name x px) (.Constant (.int (k : Int)) jk pc) pk) X.env := by rfl)
    (hfew : ((backTo cpos (starEach [a] X.env)).all (fun x => !x.1) && (backToKw cpos (keywordEach [] X.env)).all (fun x => x.1.isSome) && decide ([a].length + ([] : List Keyword).length + (if ([] : List Keyword).isEmpty then 0 else 1) < 30)) = true := by rfl)
    (hline : (apos.endLine == cpos.line) = true := by rfl) (hst : starEach [a] X.env = (false, eval a X.env) :: starEach [] X.env := by rfl) (hplain : (backTo cpos (starEach [] X.env)).any (·.1) = false := by rfl) :
    PS X (.Expr (.Call (.Attribute (.Subscript (.Name x px) (.Constant (.int (k : Int)) jk pc) pk) "append" apos) [a] [] cpos) pos) (ofS X.K cm W (pushAt i k f)) :=
  PS.imp (ps_expr (pe_bm PySem.F.plainAttrs_list PySem.F.slot_list_append PySem.F.type_list_append mt_append (pe_ix ix_seq hv pe_int hix) (pa_cons ha pa_nil hst) hbase hfew hline hst hplain) hs) fun D σ H ⟨F0, H0, ρ, ⟨F, As, rel, x, n⟩, q⟩ => by
    unfold pushAt at q
    split at q
    case h_2 => exact q.elim
    rename_i d e1
    split at q
    case h_2 => exact q.elim
    rename_i sv e2
    split at q
    case h_2 => exact q.elim
    rename_i xs e3
    split at q
    case isFalse => exact q.elim
    rename_i hz
    obtain ⟨v, h1, r1⟩ := rel.at_ i _ e2
    obtain ⟨p, w, B, rfl, hp, rw1, sub, ndB, put⟩ := r1.at_ e3 (rel.nd i)
    obtain ⟨l, vs, C, rfl, eB, nF, hH, rs⟩ := rw1.ol_inv
    have fin : tyV X.K "list" (.ref l) H ∧ ofE X.K cm f σ H fun y H2 => rAppend (.ref l) [y] H2 fun _ H3 => D.nx σ H3 := by
      refine ⟨.inl ⟨rfl, vs, .inl (.inl hH)⟩, F, ρ, As, d, rel, e1, fun w F1 H1 x1 r2 => ?_⟩
      have hH1 := x1.h _ _ hH
      refine ⟨l, vs, w, rfl, rfl, hH1, by rw [rs.length]; exact hz, ?_⟩
      have lB : l ∈ B := by rw [eB]; exact List.mem_cons_self
      have lA := sub l lB
      have hF1 := ext_none x1 hH nF
      obtain ⟨sv', ep, rp⟩ := put F1 H1 l (.lst (vs ++ [w])) (.ol (xs ++ [.fro d])) x1 lB (by
        rw [eB]
        refine .ol hF1 upd_same (ROs.snoc r2 ((rs.ext x1).out ?_))
        rw [eB] at ndB
        exact (List.nodup_cons.mp ndB).1)
      rw [ep] at q
      exact q _ _ ⟨F1, As, (rel.ext x1).upd lA e2 h1 rp, ext_upd (x.trans x1) hF1 (n i l lA), n⟩
    rcases hp with ⟨us, g1, g2⟩ | ⟨us, g1, g2⟩
    · exact ⟨.ref p, h1, .inr (.inl ⟨p, us, k, _, rfl, rfl, .inl (.inl g1), atI_nat g2, fin⟩)⟩
    · exact ⟨.ref p, h1, .inl ⟨p, us, k, _, rfl, rfl, .inl (.inl g1), atI_nat g2, fin⟩⟩
end
theorem fn_x {P : Program} {w : World} {K : PySem.W.Frag} {mg : Str → Option Value} {base : Heap} {cm : Str → Addr} {x qual : Str} {st : Stmt} {f : Addr} {fd : FuncData} {N ps : List Str} {k : Nat} {g : List Dat → Option Out} {b : Rho → Res} (hg : g = fnS N.length ps.length b) (F : L2.Fun K x qual st f fd) (S : FnScope N ps (defScope st))
    (hb : ∀ (cdv : Value) (A : Around) (outer : List Env) (s : Shared) (H : Hp) (E : XK) (W : L2.WX), Room k (A.deeper (envOfC qual (defScope st) s.heap.objs.size f cdv)) → PSs (cxOf (L2.CX P w) P w K mg base N qual (defScope st) f cdv A outer s H E).nox (defBody st) (ofS K cm W b)) :
    FnOk P w K mg base (L2.CX P w) (k + 1) f fd ps (spX K cm g) := by
  subst hg
  exact fn_nox F S hb
/-! ### a law's def -/
structure Dfn (K : PySem.W.Frag) (mg : Str → Option Value) (x qual : Str) (st : Stmt) (f : Addr) (fd : FuncData) (ps : List Str) : Prop where
  F : L2.Fun K x qual st f fd
  g : mg x = some (.ref f)
  b : Binds K fd ps []
theorem ints_rs {K : PySem.W.Frag} {cm : Str → Addr} {F : Hp} : ∀ ns : List Int, Rs K cm F (ns.map V.int) (ns.map Dat.int)
  | [] => .nil
  | n :: ns => .cons (.int n) (ints_rs ns)
theorem law_in {K : PySem.W.Frag} {cm : Str → Addr} {g : List Dat → Option Out} (hg : ∀ ns : List Int, ns.length ≤ 63 → g [.scr (ns.map Dat.int)] = some (.ok (.fro (.bl true)))) {H : Hp} {a : Addr} {ns : List Int} {E : XK} (hl : ns.length ≤ 63) (hS : SqL K H a (ns.map V.int)) : spX K cm g [.ref a] H (fun v _ => v = .bl true) E :=
  ⟨H, _, _, Same.refl H, .cons (.scr hS (ints_rs ns)) .nil, hg ns hl, fun v F' H' A x r nd n => by
    cases r with
    | fro q => exact q.bl_inv⟩
theorem law_out {P : Program} {w : World} {H : Hp} {s : Shared} {e : Value} {s' : Shared} (h : L2.CX P w [] H s (fun _ _ _ => False) e s') : False := by
  obtain ⟨_, _, _, _, _, _, _, _, _, _, _, _, z⟩ := h
  exact z
end
end Pq

namespace Pq
open PySem PySem.Spec PyProof.Rows L2
noncomputable section
section
variable {X : Cx} {cm : Str → Addr} {W : L2.WX} {a b e : Expr} {fa fb f : Rho → Option Dat} {pos : Pos}
/-! ### a + b, a list of one's own -/
def addOD (x y : Dat) : Option SV := match x, y with
  | .lst xs, .lst ys => @ite _ (xs.length + ys.length ≤ sizeLine) (Classical.propDecidable _) (some (.ol ((xs ++ ys).map SV.fro))) none
  | _, _ => none
def addO (fa fb : Rho → Option Dat) : Rho → Option SV := fun ρ => (fa ρ).bind fun x => (fb ρ).bind fun y => addOD x y
theorem o_add (ha : PE X a (ofE X.K cm fa)) (hb : PE X b (ofE X.K cm fb)) : PE X (.BinOp a .Add b pos) (ofO X.K cm (addO fa fb)) := PE.imp (pe_op op_catR ha hb) fun σ H Q ⟨F, ρ, As, sv, rel, hf, k⟩ => by
  obtain ⟨x, e1, hf⟩ := bind_some hf
  obtain ⟨y, e2, hf⟩ := bind_some hf
  refine ⟨F, ρ, As, x, rel, e1, fun v F1 H1 x1 r1 => ⟨F1, ρ, As, y, rel.ext x1, e2, fun u F2 H2 x2 r2 => ?_⟩⟩
  unfold addOD at hf
  split at hf
  · obtain ⟨c, rfl⟩ := ite_some hf
    obtain ⟨l, vs, rfl, g1, q1⟩ := r1.lst_inv
    obtain ⟨b, ws, rfl, g2, q2⟩ := r2.lst_inv
    exact ⟨l, b, vs, ws, rfl, rfl, same_rd (x2.f.trans x2.fh) g1, same_rd x2.fh g2, by rw [q1.length, q2.length]; exact c, own_lst x2.fh ((q1.mono x2.f).append q2) fun v F4 H4 A x4 r4 nd n => k v F4 H4 A ((x1.trans x2).trans x4) r4 nd fun a z => (x1.trans x2).h.free (n a z)⟩
  · cases hf
/-! ### name[k].clear() -/
def isFro : SV → Bool
  | .fro _ => true
  | _ => false
theorem ros_all {K : PySem.W.Frag} {F H : Hp} : ∀ {vs : List V} {xs : List SV} {A : List Addr}, ROs K cm F H vs xs A → xs.all isFro = true → A = []
  | _, _, _, .nil, _ => rfl
  | _, _, _, .cons r t, h => by
    rw [List.all_cons, Bool.and_eq_true] at h
    rw [ros_all t h.2]
    cases r with
    | fro _ => rfl
    | _ => cases h.1
def clearAt (i k : Nat) : Rho → Res := fun ρ => match ρ[i]? with
  | some (some sv) => match getAt sv k with
    | some (.ol xs) => if xs.all isFro = true then match putAt sv k (.ol []) with
      | some sv' => .nx (ρ.set i (some sv'))
      | none => .bad
      else .bad
    | _ => .bad
  | _ => .bad
theorem p_clearAt (i k : Nat) {x : Str} {px pc pk apos cpos : Pos} {jk : Nat} (hv : PE X (.Name x px) (tVar i)) (hix : PlainIx (.Constant (.int (k : Int)) jk pc) := by exact fun _ _ => rfl)
    (hs : swapsWith (.Call (.Attribute (.Subscript (.Name x px) (.Constant (.int (k : Int)) jk pc) pk) "clear" apos) [] [] cpos) none pos.line X.env = pure false := by rfl)
    (hbase : attributeBase (.Subscript (.Name x px) (.Constant (.int (k : Int)) jk pc) pk) "clear" X.env (eval (.Subscript (.Name x px) (.Constant (.int (k : Int)) jk pc) pk) X.env) = eval (.Subscript (.Name x px) (.Constant (.int (k : Int)) jk pc) pk) X.env := by rfl)
    (hline : (apos.endLine == cpos.line) = true := by rfl) :
    PS X (.Expr (.Call (.Attribute (.Subscript (.Name x px) (.Constant (.int (k : Int)) jk pc) pk) "clear" apos) [] [] cpos) pos) (ofS X.K cm W (clearAt i k)) :=
  PS.imp (ps_expr (pe_bm0 PySem.F.plainAttrs_list PySem.F.slot_list_clear PySem.F.type_list_clear mt_clear (pe_ix ix_seq hv pe_int hix) hbase hline) hs) fun D σ H ⟨F0, H0, ρ, ⟨F, As, rel, x, n⟩, q⟩ => by
    unfold clearAt at q
    split at q
    case h_2 => exact q.elim
    rename_i sv e2
    split at q
    case h_2 => exact q.elim
    rename_i xs e3
    split at q
    case isFalse => exact q.elim
    rename_i hall
    obtain ⟨v, h1, r1⟩ := rel.at_ i _ e2
    obtain ⟨p, w, B, rfl, hp, rw1, sub, ndB, put⟩ := r1.at_ e3 (rel.nd i)
    obtain ⟨l, vs, C, rfl, eB, nF, hH, rs⟩ := rw1.ol_inv
    have eC := ros_all rs hall
    subst eC
    have lB : l ∈ B := by rw [eB]; exact List.mem_cons_self
    have lA := sub l lB
    obtain ⟨sv', ep, rp⟩ := put F H l (.lst []) (.ol []) (Ext.refl rel.fh) lB (by rw [eB]; exact .ol nF upd_same .nil)
    rw [ep] at q
    have fin : tyV X.K "list" (.ref l) H ∧ rClear (.ref l) [] H fun _ H3 => D.nx σ H3 :=
      ⟨.inl ⟨rfl, vs, .inl (.inl hH)⟩, l, vs, rfl, rfl, hH, q _ _ ⟨F, As, rel.upd lA e2 h1 rp, ext_upd x nF (n i l lA), n⟩⟩
    rcases hp with ⟨us, g1, g2⟩ | ⟨us, g1, g2⟩
    · exact ⟨.ref p, h1, .inr (.inl ⟨p, us, k, _, rfl, rfl, .inl (.inl g1), atI_nat g2, fin⟩)⟩
    · exact ⟨.ref p, h1, .inl ⟨p, us, k, _, rfl, rfl, .inl (.inl g1), atI_nat g2, fin⟩⟩
/-! ### sep.join(xs) -/
def txsOf : List Dat → Option (List Str)
  | [] => some []
  | .str x :: xs => (txsOf xs).bind fun ys => some (x :: ys)
  | _ :: _ => none
theorem rs_txs {K : PySem.W.Frag} {F : Hp} : ∀ {vs : List V} {xs : List Dat} {ys : List Str}, Rs K cm F vs xs → txsOf xs = some ys → vs = ys.map V.str
  | _, _, _, .nil, h => by cases h; rfl
  | _, _, _, .cons r t, h => by
    unfold txsOf at h
    split at h
    · rename_i h'; cases h'
    · rename_i h'
      cases h'
      obtain ⟨ys', e, h⟩ := bind_some h
      cases h
      rw [r.str_inv, rs_txs t e]
      rfl
    · cases h
def joinD : Dat → Dat → Option Dat
  | .str a, .lst xs => (txsOf xs).bind fun ys => @ite _ ((ys.map (·.length)).sum + ys.length * a.length ≤ 16777216) (Classical.propDecidable _) (some (.str (Txt.join a ys))) none
  | _, _ => none
theorem e_join {apos : Pos} (ha : PE X a (ofE X.K cm fa)) (hb : PE X b (ofE X.K cm fb)) (hs : starEach [b] X.env = [(false, eval b X.env)] := by rfl) (hbase : attributeBase a "join" X.env (eval a X.env) = eval a X.env := by rfl) (hline : (apos.endLine == pos.line) = true := by rfl) :
    PE X (.Call (.Attribute a "join" apos) [b] [] pos) (ofE X.K cm (bin joinD fa fb)) := PE.imp (pe_join ha hb hs hbase hline) fun σ H Q ⟨F, ρ, As, d, rel, hf, k⟩ => by
  obtain ⟨x, e1, hf⟩ := bind_some hf
  obtain ⟨y, e2, hf⟩ := bind_some hf
  refine ⟨F, ρ, As, x, rel, e1, fun v F1 H1 x1 r1 => ?_⟩
  unfold joinD at hf
  split at hf
  · obtain ⟨ys, e3, hf⟩ := bind_some hf
    obtain ⟨c, rfl⟩ := ite_some hf
    refine ⟨⟨_, r1.str_inv⟩, F1, ρ, As, _, rel.ext x1, e2, fun u F2 H2 x2 r2 => ?_⟩
    obtain ⟨p, vs, rfl, g, q⟩ := r2.lst_inv
    have := rs_txs q e3
    subst this
    exact ⟨_, p, ys, r1.str_inv, rfl, .inl (.inl (same_rd x2.fh g)), c, k _ F2 H2 (x1.trans x2) (.str _)⟩
  · cases hf
end
end
end Pq

namespace Pq
open PySem PySem.Spec PyProof.Rows L2
noncomputable section
/-! ### places within what is one's own -/
inductive Stp where
  | ix (k : Nat) | fld (c f : Str)
def idxF (f : Str) : List Str → Option Nat
  | [] => none
  | g :: r => if f = g then some 0 else (idxF f r).map fun n => n + 1
def getS (sv : SV) (st : Stp) : Option SV := match sv, st with
  | .tp xs, .ix k => xs[k]?
  | .ol xs, .ix k => xs[k]?
  | .oo _ c fs xs, .fld c' f => if c = c' then (idxF f fs).bind fun j => xs[j]? else none
  | _, _ => none
def putS (sv : SV) (st : Stp) (x : SV) : Option SV := match sv, st with
  | .tp xs, .ix k => some (.tp (xs.set k x))
  | .ol xs, .ix k => some (.ol (xs.set k x))
  | .oo a c fs xs, .fld c' f => if c = c' then (idxF f fs).bind fun j => some (.oo a c fs (xs.set j x)) else none
  | _, _ => none
def getP (sv : SV) : List Stp → Option SV
  | [] => some sv
  | st :: p => (getS sv st).bind fun x => getP x p
def putP (sv : SV) : List Stp → SV → Option SV
  | [], x => some x
  | st :: p, x => (getS sv st).bind fun y => (putP y p x).bind fun z => putS sv st z
theorem getP_snoc : ∀ (p : List Stp) (sv : SV) (st : Stp), getP sv (p ++ [st]) = (getP sv p).bind fun x => getS x st
  | [], sv, st => by
    show (getS sv st).bind (fun x => some x) = getS sv st
    cases getS sv st <;> rfl
  | q :: p, sv, st => by
    show (getS sv q).bind (fun x => getP x (p ++ [st])) = ((getS sv q).bind fun x => getP x p).bind _
    cases getS sv q with
    | none => rfl
    | some y => exact getP_snoc p y st
theorem putP_snoc : ∀ (p : List Stp) (sv : SV) (st : Stp) (x y z : SV), getP sv p = some y → putS y st x = some z → putP sv (p ++ [st]) x = (getS y st).bind fun _ => putP sv p z
  | [], sv, st, x, y, z, h, hz => by
    cases h
    show (getS sv st).bind (fun y => (some x).bind fun z => putS sv st z) = _
    cases getS sv st with
    | none => rfl
    | some w =>
      show putS sv st x = some z
      exact hz
  | q :: p, sv, st, x, y, z, h, hz => by
    show (getS sv q).bind (fun y => (putP y (p ++ [st]) x).bind fun z => putS sv q z) = (getS y st).bind fun _ => (getS sv q).bind fun y => (putP y p z).bind fun z => putS sv q z
    have h' : (getS sv q).bind (fun x => getP x p) = some y := h
    cases e : getS sv q with
    | none =>
      cases getS y st <;> rfl
    | some w =>
      rw [e] at h'
      have ih := putP_snoc p w st x y z h' hz
      show (putP w (p ++ [st]) x).bind (fun z => putS sv q z) = (getS y st).bind fun _ => (putP w p z).bind fun z => putS sv q z
      rw [ih]
      cases getS y st <;> rfl
section
variable {K : PySem.W.Frag} {cm : Str → Addr} {F H : Hp}
theorem RO.oo_inv {v : V} {a : Addr} {c : Str} {fs : List Str} {xs : List SV} {A : List Addr} (h : RO K cm F H v (.oo a c fs xs) A) : ∃ dx fvs B, v = .ref a ∧ A = a :: B ∧ F a = none ∧ H a = some (.ins (cm c) dx fvs) ∧ fvs.map (·.1) = fs ∧ ROs K cm F H (fvs.map (·.2)) xs B := by
  cases h with
  | oo n h k r => exact ⟨_, _, _, rfl, rfl, n, h, k, r⟩
theorem idx_lookup {f : Str} {w : V} : ∀ {fvs : List (Str × V)} {j : Nat}, idxF f (fvs.map (·.1)) = some j → (fvs.map (·.2))[j]? = some w → fvs.lookup f = some w
  | [], _, h, _ => by cases h
  | (g, x) :: r, j, h, hw => by
    rw [List.map_cons, idxF] at h
    by_cases e : f = g
    · rw [if_pos e] at h
      cases h
      cases hw
      rw [List.lookup_cons, beq_iff_eq.mpr e]
    · rw [if_neg e] at h
      rw [List.lookup_cons, beq_eq_false_iff_ne.mpr e]
      cases e2 : idxF f (r.map (·.1)) with
      | none => rw [e2] at h; cases h
      | some n =>
        rw [e2] at h
        cases h
        exact idx_lookup e2 (by simpa using hw)
def HoldS (cm : Str → Addr) (H : Hp) (a : Addr) (w : V) : Stp → Prop
  | .ix k => (∃ vs, H a = some (.tup vs) ∧ vs[k]? = some w) ∨ ∃ vs, H a = some (.lst vs) ∧ vs[k]? = some w
  | .fld c f => ∃ dx fvs, H a = some (.ins (cm c) dx fvs) ∧ fvs.lookup f = some w
theorem RO.atS {v : V} {sv x : SV} {A : List Addr} {st : Stp} (r : RO K cm F H v sv A) (h : getS sv st = some x) (nd : A.Nodup) : ∃ a w B, v = .ref a ∧ HoldS cm H a w st ∧ RO K cm F H w x B ∧ (∀ b ∈ B, b ∈ A) ∧ B.Nodup ∧
    ∀ (F1 H1 : Hp) (b : Addr) (o : HO) (x' : SV), Ext F H F1 H1 → b ∈ B → RO K cm F1 (upd H1 b o) w x' B → ∃ sv', putS sv st x' = some sv' ∧ RO K cm F1 (upd H1 b o) v sv' A := by
  unfold getS at h
  split at h
  · rename_i ys kk
    obtain ⟨a, w, B, h1, h2, h3, h4, h5, h6⟩ := r.at_ (k := kk) (x := x) (show getAt _ kk = some x from h) nd
    refine ⟨a, w, B, h1, h2, h3, h4, h5, fun F1 H1 b o x' e hb r' => ?_⟩
    obtain ⟨sv', q1, q2⟩ := h6 F1 H1 b o x' e hb r'
    cases q1
    exact ⟨_, rfl, q2⟩
  · rename_i ys kk
    obtain ⟨a, w, B, h1, h2, h3, h4, h5, h6⟩ := r.at_ (k := kk) (x := x) (show getAt _ kk = some x from h) nd
    refine ⟨a, w, B, h1, h2, h3, h4, h5, fun F1 H1 b o x' e hb r' => ?_⟩
    obtain ⟨sv', q1, q2⟩ := h6 F1 H1 b o x' e hb r'
    cases q1
    exact ⟨_, rfl, q2⟩
  · rename_i a c fs xs c' f
    split at h
    · rename_i ec
      subst ec
      obtain ⟨j, e1, e2⟩ := bind_some h
      obtain ⟨dx, fvs, B, rfl, rfl, n, hH, hk, rs⟩ := r.oo_inv
      rw [List.nodup_cons] at nd
      obtain ⟨w, C, h1, h2, h3, h4, h5⟩ := rs.at_ e2 nd.2
      subst hk
      refine ⟨a, w, C, rfl, ⟨dx, fvs, hH, idx_lookup e1 h1⟩, h2, fun b z => List.mem_cons_of_mem _ (h3 b z), h4, fun F1 H1 b o x' e hb r' => ?_⟩
      refine ⟨.oo a c (fvs.map (·.1)) (xs.set j x'), ?_, .oo (dx := dx) (ext_none e hH n) ?_ rfl (h5 F1 H1 b o x' e hb r')⟩
      · show (if c = c then (idxF f (fvs.map (·.1))).bind fun j => some (SV.oo a c (fvs.map (·.1)) (xs.set j x')) else none) = _
        rw [if_pos rfl, e1]
        rfl
      · rw [upd_ne (fun z => nd.1 (by rw [z]; exact h3 b hb))]
        exact e.h _ _ hH
    · cases h
  · cases h
structure Lens (K : PySem.W.Frag) (cm : Str → Addr) (F H : Hp) (sv : SV) (v0 : V) (A : List Addr) (p : List Stp) (v : V) (x : SV) (B : List Addr) : Prop where
  ro : RO K cm F H v x B
  sub : ∀ b ∈ B, b ∈ A
  nd : B.Nodup
  put : ∀ (F1 H1 : Hp) (b : Addr) (o : HO) (x' : SV), Ext F H F1 H1 → b ∈ B → RO K cm F1 (upd H1 b o) v x' B → ∃ sv', putP sv p x' = some sv' ∧ RO K cm F1 (upd H1 b o) v0 sv' A
def tPl (K : PySem.W.Frag) (cm : Str → Addr) (i : Nat) (p : List Stp) : TE := fun σ H Q => ∃ F ρ As sv v0 x, Rel K cm F H σ ρ As ∧ ρ[i]? = some (some sv) ∧ σ[i]? = some (some v0) ∧ getP sv p = some x ∧ ∀ v B, Lens K cm F H sv v0 (As i) p v x B → Q v H
end
section
variable {X : Cx} {cm : Str → Addr} {W : L2.WX} {a b e : Expr} {es : List Expr} {fa fb f : Rho → Option Dat} {fs : Rho → Option (List Dat)} {pos : Pos}
theorem pl_name (i : Nat) (h : PE X e (tVar i)) : PE X e (tPl X.K cm i []) := PE.imp h fun σ H Q ⟨F, ρ, As, sv, v0, x, rel, e1, e2, e3, k⟩ => by
  cases e3
  obtain ⟨v, h1, h2⟩ := rel.at_ i sv e1
  rw [e2] at h1
  cases h1
  exact ⟨v0, e2, k v0 (As i) ⟨h2, fun _ h => h, rel.nd i, fun F1 H1 b o x' _ _ r => ⟨x', rfl, r⟩⟩⟩
theorem lens_snoc {K : PySem.W.Frag} {F H : Hp} {sv x y : SV} {v0 v : V} {A B : List Addr} {p : List Stp} {st : Stp} (hp : getP sv p = some x) (l : Lens K cm F H sv v0 A p v x B) (h : getS x st = some y) : ∃ a w C, v = .ref a ∧ HoldS cm H a w st ∧ Lens K cm F H sv v0 A (p ++ [st]) w y C := by
  obtain ⟨a, w, C, rfl, h1, h2, h3, h4, h5⟩ := l.ro.atS h l.nd
  refine ⟨a, w, C, rfl, h1, h2, fun b z => l.sub b (h3 b z), h4, fun F1 H1 b o x' e hb r => ?_⟩
  obtain ⟨z, q1, q2⟩ := h5 F1 H1 b o x' e hb r
  obtain ⟨sv', q3, q4⟩ := l.put F1 H1 b o z e (h3 b hb) q2
  refine ⟨sv', ?_, q4⟩
  rw [putP_snoc p sv st x' x z hp q1, h]
  exact q3
theorem pl_ix {i k : Nat} {p q : List Stp} {jk : Nat} {pc pk : Pos} (hq : p ++ [.ix k] = q) (hp : PE X e (tPl X.K cm i p)) (hix : PlainIx (.Constant (.int (k : Int)) jk pc) := by exact fun _ _ => rfl) : PE X (.Subscript e (.Constant (.int (k : Int)) jk pc) pk) (tPl X.K cm i q) := by
  subst hq
  refine PE.imp (pe_ix ix_seq hp pe_int hix) fun σ H Q ⟨F, ρ, As, sv, v0, x, rel, e1, e2, e3, kk⟩ => ?_
  rw [getP_snoc] at e3
  obtain ⟨y, e3, e4⟩ := bind_some e3
  refine ⟨F, ρ, As, sv, v0, y, rel, e1, e2, e3, fun v B l => ?_⟩
  obtain ⟨a, w, C, rfl, hh, l'⟩ := lens_snoc e3 l e4
  rcases hh with ⟨us, g1, g2⟩ | ⟨us, g1, g2⟩
  · exact .inr (.inl ⟨a, us, k, w, rfl, rfl, .inl (.inl g1), atI_nat g2, kk w C l'⟩)
  · exact .inl ⟨a, us, k, w, rfl, rfl, .inl (.inl g1), atI_nat g2, kk w C l'⟩
theorem pl_fld {i : Nat} {p q : List Stp} {c g : Str} (hq : p ++ [.fld c g] = q) (hc : Cls X.K (cm c)) (hn : NoAttr X.K (cm c) g) (hp : PE X e (tPl X.K cm i p)) (hb : attributeBase e g X.env (eval e X.env) = eval e X.env := by rfl) : PE X (.Attribute e g pos) (tPl X.K cm i q) := by
  subst hq
  refine PE.imp (pe_fld hp hb) fun σ H Q ⟨F, ρ, As, sv, v0, x, rel, e1, e2, e3, kk⟩ => ?_
  rw [getP_snoc] at e3
  obtain ⟨y, e3, e4⟩ := bind_some e3
  refine ⟨F, ρ, As, sv, v0, y, rel, e1, e2, e3, fun v B l => ?_⟩
  obtain ⟨a, w, C, rfl, ⟨dx, fvs, g1, g2⟩, l'⟩ := lens_snoc e3 l e4
  exact ⟨a, _, dx, fvs, w, rfl, g1, hc, hn, g2, kk w C l'⟩
/-! place.append(e), place.clear(), place[i] = e -/
def pushP (i : Nat) (p : List Stp) (f : Rho → Option Dat) : Rho → Res := fun ρ => match f ρ with
  | some d => match ρ[i]? with
    | some (some sv) => match getP sv p with
      | some (.ol xs) => @ite _ (xs.length < sizeLine) (Classical.propDecidable _) (match putP sv p (.ol (xs ++ [.fro d])) with
        | some sv' => .nx (ρ.set i (some sv'))
        | none => .bad) .bad
      | _ => .bad
    | _ => .bad
  | none => .bad
theorem p_pushP (i : Nat) (p : List Stp) {apos cpos : Pos} (hp : PE X e (tPl X.K cm i p)) (ha : PE X a (ofE X.K cm f))
    (hs : swapsWith (.Call (.Attribute e "append" apos) [a] [] cpos) none pos.line X.env = pure false := by rfl)
    (hbase : attributeBase e "append" X.env (eval e X.env) = eval e X.env := by rfl)
    (hfew : ((backTo cpos (starEach [a] X.env)).all (fun x => !x.1) && (backToKw cpos (keywordEach [] X.env)).all (fun x => x.1.isSome) && decide ([a].length + ([] : List Keyword).length + (if ([] : List Keyword).isEmpty then 0 else 1) < 30)) = true := by rfl)
    (hline : (apos.endLine == cpos.line) = true := by rfl) (hst : starEach [a] X.env = (false, eval a X.env) :: starEach [] X.env := by rfl) (hplain : (backTo cpos (starEach [] X.env)).any (·.1) = false := by rfl) :
    PS X (.Expr (.Call (.Attribute e "append" apos) [a] [] cpos) pos) (ofS X.K cm W (pushP i p f)) :=
  PS.imp (ps_expr (pe_bm PySem.F.plainAttrs_list PySem.F.slot_list_append PySem.F.type_list_append mt_append hp (pa_cons ha pa_nil hst) hbase hfew hline hst hplain) hs) fun D σ H ⟨F0, H0, ρ, ⟨F, As, rel, x, n⟩, q⟩ => by
    unfold pushP at q
    split at q
    case h_2 => exact q.elim
    rename_i d e1
    split at q
    case h_2 => exact q.elim
    rename_i sv e2
    split at q
    case h_2 => exact q.elim
    rename_i xs e3
    split at q
    case isFalse => exact q.elim
    rename_i hz
    obtain ⟨v0, h1, r1⟩ := rel.at_ i _ e2
    refine ⟨F, ρ, As, sv, v0, _, rel, e2, h1, e3, fun v B l => ?_⟩
    obtain ⟨c, vs, C, rfl, eB, nF, hH, rs⟩ := l.ro.ol_inv
    refine ⟨.inl ⟨rfl, vs, .inl (.inl hH)⟩, F, ρ, As, d, rel, e1, fun w F1 H1 x1 r2 => ?_⟩
    have hH1 := x1.h _ _ hH
    refine ⟨c, vs, w, rfl, rfl, hH1, by rw [rs.length]; exact hz, ?_⟩
    have lB : c ∈ B := by rw [eB]; exact List.mem_cons_self
    have lA := l.sub c lB
    have hF1 := ext_none x1 hH nF
    obtain ⟨sv', ep, rp⟩ := l.put F1 H1 c (.lst (vs ++ [w])) (.ol (xs ++ [.fro d])) x1 lB (by
      have ndB := l.nd
      rw [eB] at ndB ⊢
      refine .ol hF1 upd_same (ROs.snoc r2 ((rs.ext x1).out ?_))
      exact (List.nodup_cons.mp ndB).1)
    rw [ep] at q
    exact q _ _ ⟨F1, As, (rel.ext x1).upd lA e2 h1 rp, ext_upd (x.trans x1) hF1 (n i c lA), n⟩
def clearP (i : Nat) (p : List Stp) : Rho → Res := fun ρ => match ρ[i]? with
  | some (some sv) => match getP sv p with
    | some (.ol xs) => if xs.all isFro = true then match putP sv p (.ol []) with
      | some sv' => .nx (ρ.set i (some sv'))
      | none => .bad
      else .bad
    | _ => .bad
  | _ => .bad
theorem p_clearP (i : Nat) (p : List Stp) {apos cpos : Pos} (hp : PE X e (tPl X.K cm i p))
    (hs : swapsWith (.Call (.Attribute e "clear" apos) [] [] cpos) none pos.line X.env = pure false := by rfl)
    (hbase : attributeBase e "clear" X.env (eval e X.env) = eval e X.env := by rfl) (hline : (apos.endLine == cpos.line) = true := by rfl) :
    PS X (.Expr (.Call (.Attribute e "clear" apos) [] [] cpos) pos) (ofS X.K cm W (clearP i p)) :=
  PS.imp (ps_expr (pe_bm0 PySem.F.plainAttrs_list PySem.F.slot_list_clear PySem.F.type_list_clear mt_clear hp hbase hline) hs) fun D σ H ⟨F0, H0, ρ, ⟨F, As, rel, x, n⟩, q⟩ => by
    unfold clearP at q
    split at q
    case h_2 => exact q.elim
    rename_i sv e2
    split at q
    case h_2 => exact q.elim
    rename_i xs e3
    split at q
    case isFalse => exact q.elim
    rename_i hall
    obtain ⟨v0, h1, r1⟩ := rel.at_ i _ e2
    refine ⟨F, ρ, As, sv, v0, _, rel, e2, h1, e3, fun v B l => ?_⟩
    obtain ⟨c, vs, C, rfl, eB, nF, hH, rs⟩ := l.ro.ol_inv
    have eC := ros_all rs hall
    subst eC
    have lB : c ∈ B := by rw [eB]; exact List.mem_cons_self
    have lA := l.sub c lB
    obtain ⟨sv', ep, rp⟩ := l.put F H c (.lst []) (.ol []) (Ext.refl rel.fh) lB (by rw [eB]; exact .ol nF upd_same .nil)
    rw [ep] at q
    exact ⟨.inl ⟨rfl, vs, .inl (.inl hH)⟩, c, vs, rfl, rfl, hH, q _ _ ⟨F, As, rel.upd lA e2 h1 rp, ext_upd x nF (n i c lA), n⟩⟩
theorem ros_set {K : PySem.W.Frag} {F H : Hp} {w : V} {d : Dat} (r : R K cm F w d) : ∀ {vs : List V} {xs : List SV} {A : List Addr} {j : Nat} {d0 : Dat}, ROs K cm F H vs xs A → xs[j]? = some (.fro d0) → ROs K cm F H (vs.set j w) (xs.set j (.fro d)) A
  | _, _, _, 0, _, .cons (A := A) (B := B) q t, e => by
    simp at e
    subst e
    cases q with
    | fro _ => exact .cons (A := []) (.fro r) t
  | _, _, _, j + 1, _, .cons q t, e => .cons q (ros_set r t (by simpa using e))
  | _, _, _, _, _, .nil, e => by simp at e
def setPl (i : Nat) (p : List Stp) (fi f : Rho → Option Dat) : Rho → Res := fun ρ => match f ρ with
  | some d => match fi ρ with
    | some (.int k) => match ρ[i]? with
      | some (some sv) => match getP sv p with
        | some (.ol xs) => match ixN xs.length k with
          | some j => match xs[j]? with
            | some (.fro _) => match putP sv p (.ol (xs.set j (.fro d))) with
              | some sv' => .nx (ρ.set i (some sv'))
              | none => .bad
            | _ => .bad
          | none => .bad
        | _ => .bad
      | _ => .bad
    | _ => .bad
  | none => .bad
/-- place[b] = a -/
theorem p_setPl (i : Nat) (p : List Stp) {pos' : Pos} {fi : Rho → Option Dat} (hp : PE X e (tPl X.K cm i p)) (hi : PE X b (ofE X.K cm fi)) (ha : PE X a (ofE X.K cm f))
    (hs : swapsWithSole [.Subscript e b pos'] a pos.line X.env = pure false := by rfl) (hw : swappedStores [.Subscript e b pos'] a X.env = pure none := by rfl)
    (h1 : (assignEach [.Subscript e b pos'] X.env).map (·.2) = [assign (.Subscript e b pos') X.env] := by rfl)
    (hasg : ∀ v, assign (.Subscript e b pos') X.env v = (do
      let ov ← holding [v] (eval e X.env)
      let iv ← holding [v, ov] (eval b X.env)
      standAt pos'
      holding [v, ov, iv] (setItem ov iv v)
      release [v, ov, iv] []) := by intro _; rfl) :
    PS X (.Assign [.Subscript e b pos'] a pos) (ofS X.K cm W (setPl i p fi f)) :=
  PS.imp (ps_asg ha (pg_sub (pos := pos') hp hi set_list hasg) hs hw h1) fun D σ H ⟨F0, H0, ρ, ⟨F, As, rel, x, n⟩, q⟩ => by
    unfold setPl at q
    split at q
    case h_2 => exact q.elim
    rename_i d e1
    split at q
    case h_2 => exact q.elim
    rename_i k e0
    split at q
    case h_2 => exact q.elim
    rename_i sv e2
    split at q
    case h_2 => exact q.elim
    rename_i xs e3
    split at q
    case h_2 => exact q.elim
    rename_i j ej
    split at q
    case h_2 => exact q.elim
    rename_i d0 e4
    obtain ⟨v0, h1, r1⟩ := rel.at_ i _ e2
    refine ⟨F, ρ, As, d, rel, e1, fun w F1 H1 x1 r2 => ?_⟩
    refine ⟨F1, ρ, As, sv, v0, _, rel.ext x1, e2, h1, e3, fun v B l => ?_⟩
    refine ⟨F1, ρ, As, .int k, rel.ext x1, e0, fun u F2 H2 x2 r3 => ?_⟩
    obtain ⟨c, vs, C, rfl, eB, nF, hH, rs⟩ := l.ro.ol_inv
    have hH2 := x2.h _ _ hH
    refine ⟨c, vs, k, j, rfl, r3.int_inv, hH2, by rw [rs.length]; exact ej, ?_⟩
    have lB : c ∈ B := by rw [eB]; exact List.mem_cons_self
    have lA := l.sub c lB
    have hF2 := ext_none x2 hH nF
    obtain ⟨sv', ep, rp⟩ := l.put F2 H2 c (.lst (vs.set j w)) (.ol (xs.set j (.fro d))) x2 lB (by
      have ndB := l.nd
      rw [eB] at ndB ⊢
      refine .ol hF2 upd_same (ros_set (r2.mono x2.f) ((rs.ext x2).out ?_) e4)
      exact (List.nodup_cons.mp ndB).1)
    rw [ep] at q
    exact q _ _ ⟨F2, As, (rel.ext (x1.trans x2)).upd lA e2 h1 rp, ext_upd (x.trans (x1.trans x2)) hF2 (n i c lA), n⟩
end
end
end Pq

namespace Pq
open PySem PySem.Spec PyProof.Rows L2
noncomputable section
/-! ### data as the library's data -/
mutual
def py : Dat → PyData
  | .non => .none | .bl b => .bool b | .int i => .int i | .str x => .str x
  | .lst xs => .list (pys xs)
  | .tup xs => .tuple (pys xs)
  | .dct _ _ => .none | .obj _ _ _ => .none | .scr _ => .none
def pys : List Dat → List PyData
  | [] => []
  | x :: xs => py x :: pys xs
end
mutual
def pl : Dat → Bool
  | .non => true | .bl _ => true | .int _ => true | .str _ => true
  | .lst xs => pls xs
  | .tup xs => pls xs
  | .dct _ _ => false | .obj _ _ _ => false | .scr _ => false
def pls : List Dat → Bool
  | [] => true
  | x :: xs => pl x && pls xs
end
theorem pys_map : ∀ xs : List Dat, pys xs = xs.map py
  | [] => by rw [pys]; rfl
  | x :: xs => by rw [pys, pys_map xs]; rfl
theorem pls_all : ∀ xs : List Dat, pls xs = xs.all pl
  | [] => by rw [pls]; rfl
  | x :: xs => by rw [pls, pls_all xs]; rfl
section
variable {X : Cx} {cm : Str → Addr} {pins : List (Addr × Obj)} {σ : L2.St} {F H : Hp} {s : Shared}
mutual
theorem R.reads (I : Inv X pins σ H s) (e : Same F H) : ∀ {v : V} {d : Dat}, R X.K cm F v d → pl d = true → ∀ {u : Value}, RelV v u → ∃ as, Reads s.heap u (py d) as
  | _, _, .non, _, _, r => by cases r; exact ⟨_, by rw [py]; exact .none⟩
  | _, _, .bl b, _, _, r => by cases r; exact ⟨_, by rw [py]; exact .bool b⟩
  | _, _, .int i, _, _, r => by obtain ⟨t, rfl⟩ := r; exact ⟨_, by rw [py]; exact .int i t⟩
  | _, _, .str x, _, _, r => by obtain ⟨t, rfl⟩ := r; exact ⟨_, by rw [py]; exact .str x t⟩
  | _, _, .lst h rs, hp, _, r => by
    cases r
    obtain ⟨its, rv, o, ho, hc, n, hd⟩ := R.at_list I e h
    rw [pl] at hp
    obtain ⟨as, q⟩ := Rs.reads I e rs hp rv
    exact ⟨_, by rw [py]; exact .list ho hc hd q⟩
  | _, _, .tup h rs, hp, _, r => by
    cases r
    obtain ⟨its, rv, o, ho, hc, n, hd⟩ := R.at_tup I e h
    rw [pl] at hp
    obtain ⟨as, q⟩ := Rs.reads I e rs hp rv
    exact ⟨_, by rw [py]; exact .tuple ho hc hd q⟩
  | _, _, .dct h k r, hp, _, _ => by rw [pl] at hp; cases hp
  | _, _, .obj h k r, hp, _, _ => by rw [pl] at hp; cases hp
  | _, _, .scr h r, hp, _, _ => by rw [pl] at hp; cases hp
theorem Rs.reads (I : Inv X pins σ H s) (e : Same F H) : ∀ {vs : List V} {ds : List Dat}, Rs X.K cm F vs ds → pls ds = true → ∀ {us : List Value}, Vals vs us → ∃ as, ReadsAll s.heap us (pys ds) as
  | _, _, .nil, _, _, r => by cases r; exact ⟨_, by rw [pys]; exact .nil⟩
  | _, _, .cons r1 rs, hp, _, .cons q qs => by
    rw [pls, Bool.and_eq_true] at hp
    obtain ⟨as, z⟩ := R.reads I e r1 hp.1 q
    obtain ⟨bs, y⟩ := Rs.reads I e rs hp.2 qs
    exact ⟨_, by rw [pys]; exact .cons z y⟩
end
end
section
variable {X : Cx} {cm : Str → Addr} {W : L2.WX} {a b e : Expr} {es : List Expr} {fa fb f : Rho → Option Dat} {fs : Rho → Option (List Dat)} {pos : Pos}
/-! ### order of data -/
def ordP (d d' : Dat) : Prop := pl d = true ∧ pl d' = true ∧ PySem.W.alike (py d) (py d') = true ∧ py d ≠ .none ∧ min (py d).depth (py d').depth ≤ 50
def rDat2 (K : PySem.W.Frag) (cm : Str → Addr) (f : PyData → PyData → Bool) : R2 := fun x y H Q => ∃ F d d', Same F H ∧ R K cm F x d ∧ R K cm F y d' ∧ ordP d d' ∧ Q (.bl (f (py d) (py d'))) H
theorem op_ltP (hu : X.A.units + 64 < cLine) : OpR X (compareOp .Lt) (rDat2 X.K cm PySem.W.dataLt) := by
  intro pins s σ H x y v u Q I rx ry ⟨F, d, d', e, r1, r2, ⟨p1, p2, p3, p4, p5⟩, q⟩
  obtain ⟨as, z1⟩ := R.reads I e r1 p1 rx
  obtain ⟨bs, z2⟩ := R.reads I e r2 p2 ry
  exact PySem.W.lt_data z1 z2 p3 p4 (by omega) ⟨.bl _, H, I, rfl, q⟩
theorem op_gtP (hu : X.A.units + 64 < cLine) : OpR X (compareOp .Gt) (rDat2 X.K cm fun a b => PySem.W.dataLt b a) := by
  intro pins s σ H x y v u Q I rx ry ⟨F, d, d', e, r1, r2, ⟨p1, p2, p3, p4, p5⟩, q⟩
  obtain ⟨as, z1⟩ := R.reads I e r1 p1 rx
  obtain ⟨bs, z2⟩ := R.reads I e r2 p2 ry
  exact PySem.W.gt_data z1 z2 p3 p4 (by omega) ⟨.bl _, H, I, rfl, q⟩
theorem op_leP (hu : X.A.units + 64 < cLine) : OpR X (compareOp .LtE) (rDat2 X.K cm fun a b => !PySem.W.dataLt b a) := by
  intro pins s σ H x y v u Q I rx ry ⟨F, d, d', e, r1, r2, ⟨p1, p2, p3, p4, p5⟩, q⟩
  obtain ⟨as, z1⟩ := R.reads I e r1 p1 rx
  obtain ⟨bs, z2⟩ := R.reads I e r2 p2 ry
  exact PySem.W.le_data z1 z2 p3 p4 (by omega) ⟨.bl _, H, I, rfl, q⟩
theorem op_geP (hu : X.A.units + 64 < cLine) : OpR X (compareOp .GtE) (rDat2 X.K cm fun a b => !PySem.W.dataLt a b) := by
  intro pins s σ H x y v u Q I rx ry ⟨F, d, d', e, r1, r2, ⟨p1, p2, p3, p4, p5⟩, q⟩
  obtain ⟨as, z1⟩ := R.reads I e r1 p1 rx
  obtain ⟨bs, z2⟩ := R.reads I e r2 p2 ry
  exact PySem.W.ge_data z1 z2 p3 p4 (by omega) ⟨.bl _, H, I, rfl, q⟩
/-- two tuples, two lists: by data; else as before -/
def seqs : Dat → Dat → Bool
  | .tup _, .tup _ => true
  | .lst _, .lst _ => true
  | _, _ => false
def ordX (f : PyData → PyData → Bool) (g : Dat → Dat → Option Dat) (d d' : Dat) : Option Dat := if seqs d d' = true then @ite _ (ordP d d') (Classical.propDecidable _) (some (.bl (f (py d) (py d')))) none else g d d'
theorem od_X {f : PyData → PyData → Bool} {g : Dat → Dat → Option Dat} {r : R2} (hg : OpD X cm r g) : OpD X cm (fun x y H Q => rDat2 X.K cm f x y H Q ∨ r x y H Q) (ordX f g) := fun F H x y a b d Q e r1 r2 hz k => by
  unfold ordX at hz
  split at hz
  · obtain ⟨c, rfl⟩ := ite_some hz
    exact .inl ⟨F, a, b, e, r1, r2, c, k _ F H (Ext.refl e) (.bl _)⟩
  · exact .inr (hg F H x y a b d Q e r1 r2 hz k)
def ltX := ordX PySem.W.dataLt ltD
def gtX := ordX (fun a b => PySem.W.dataLt b a) gtD
def leX := ordX (fun a b => !PySem.W.dataLt b a) leD
def geX := ordX (fun a b => !PySem.W.dataLt a b) geD
theorem op_ltX (hu : X.A.units + 64 < cLine) : OpR X (compareOp .Lt) (fun x y H Q => rDat2 X.K cm PySem.W.dataLt x y H Q ∨ rOrd (fun i j => decide (i < j)) (fun i j => decide (i.cps.toList < j.cps.toList)) x y H Q) := (op_ltP hu).or op_ltA
theorem op_gtX (hu : X.A.units + 64 < cLine) : OpR X (compareOp .Gt) (fun x y H Q => rDat2 X.K cm (fun a b => PySem.W.dataLt b a) x y H Q ∨ rOrd (fun i j => decide (j < i)) (fun i j => decide (j.cps.toList < i.cps.toList)) x y H Q) := (op_gtP hu).or op_gtA
theorem op_leX (hu : X.A.units + 64 < cLine) : OpR X (compareOp .LtE) (fun x y H Q => rDat2 X.K cm (fun a b => !PySem.W.dataLt b a) x y H Q ∨ rOrd (fun i j => decide (i ≤ j)) (fun i j => !decide (j.cps.toList < i.cps.toList)) x y H Q) := (op_leP hu).or op_leA
theorem op_geX (hu : X.A.units + 64 < cLine) : OpR X (compareOp .GtE) (fun x y H Q => rDat2 X.K cm (fun a b => !PySem.W.dataLt a b) x y H Q ∨ rOrd (fun i j => decide (j ≤ i)) (fun i j => !decide (i.cps.toList < j.cps.toList)) x y H Q) := (op_geP hu).or op_geA
theorem od_ltX : OpD X cm (fun x y H Q => rDat2 X.K cm PySem.W.dataLt x y H Q ∨ rOrd (fun i j => decide (i < j)) (fun i j => decide (i.cps.toList < j.cps.toList)) x y H Q) ltX := od_X od_lt
theorem od_gtX : OpD X cm (fun x y H Q => rDat2 X.K cm (fun a b => PySem.W.dataLt b a) x y H Q ∨ rOrd (fun i j => decide (j < i)) (fun i j => decide (j.cps.toList < i.cps.toList)) x y H Q) gtX := od_X od_gt
theorem od_leX : OpD X cm (fun x y H Q => rDat2 X.K cm (fun a b => !PySem.W.dataLt b a) x y H Q ∨ rOrd (fun i j => decide (i ≤ j)) (fun i j => !decide (j.cps.toList < i.cps.toList)) x y H Q) leX := od_X od_le
theorem od_geX : OpD X cm (fun x y H Q => rDat2 X.K cm (fun a b => !PySem.W.dataLt a b) x y H Q ∨ rOrd (fun i j => decide (j ≤ i)) (fun i j => !decide (i.cps.toList < j.cps.toList)) x y H Q) geX := od_X od_ge
theorem e_ltX (hu : X.A.units + 64 < cLine) (ha : PE X a (ofE X.K cm fa)) (hb : PE X b (ofE X.K cm fb)) : PE X (.Compare a [.Lt] [b] pos) (ofE X.K cm (bin ltX fa fb)) := e_cmp (op_ltX hu) od_ltX ha hb (nomark _)
theorem e_gtX (hu : X.A.units + 64 < cLine) (ha : PE X a (ofE X.K cm fa)) (hb : PE X b (ofE X.K cm fb)) : PE X (.Compare a [.Gt] [b] pos) (ofE X.K cm (bin gtX fa fb)) := e_cmp (op_gtX hu) od_gtX ha hb (nomark _)
theorem e_leX (hu : X.A.units + 64 < cLine) (ha : PE X a (ofE X.K cm fa)) (hb : PE X b (ofE X.K cm fb)) : PE X (.Compare a [.LtE] [b] pos) (ofE X.K cm (bin leX fa fb)) := e_cmp (op_leX hu) od_leX ha hb (nomark _)
theorem e_geX (hu : X.A.units + 64 < cLine) (ha : PE X a (ofE X.K cm fa)) (hb : PE X b (ofE X.K cm fb)) : PE X (.Compare a [.GtE] [b] pos) (ofE X.K cm (bin geX fa fb)) := e_cmp (op_geX hu) od_geX ha hb (nomark _)
theorem t_ltX (hu : X.A.units + 64 < cLine) (ha : PE X a (ofE X.K cm fa)) (hb : PE X b (ofE X.K cm fb)) : PT X (.Compare a [.Lt] [b] pos) (ofT X.K cm (tst (bin ltX fa fb))) := t_cmp (op_ltX hu) od_ltX ha hb (nomark _)
theorem t_gtX (hu : X.A.units + 64 < cLine) (ha : PE X a (ofE X.K cm fa)) (hb : PE X b (ofE X.K cm fb)) : PT X (.Compare a [.Gt] [b] pos) (ofT X.K cm (tst (bin gtX fa fb))) := t_cmp (op_gtX hu) od_gtX ha hb (nomark _)
theorem t_leX (hu : X.A.units + 64 < cLine) (ha : PE X a (ofE X.K cm fa)) (hb : PE X b (ofE X.K cm fb)) : PT X (.Compare a [.LtE] [b] pos) (ofT X.K cm (tst (bin leX fa fb))) := t_cmp (op_leX hu) od_leX ha hb (nomark _)
theorem t_geX (hu : X.A.units + 64 < cLine) (ha : PE X a (ofE X.K cm fa)) (hb : PE X b (ofE X.K cm fb)) : PT X (.Compare a [.GtE] [b] pos) (ofT X.K cm (tst (bin geX fa fb))) := t_cmp (op_geX hu) od_geX ha hb (nomark _)
/-! ### sorted(list) -/
def leY (a b : Dat) : Bool := !PySem.W.dataLt (py b) (py a)
def srtP (ds : List Dat) : Prop := (∀ d ∈ ds, pl d = true ∧ (py d).depth ≤ 50) ∧ PySem.W.AllAlike (ds.map py) ∧ PySem.W.Sortable (ds.map py) ∧ ds.length ≤ sizeLine
def rSrt (K : PySem.W.Frag) (cm : Str → Addr) : List V → Hp → VK → Prop := fun vs H Q => ∃ F a ws ds, vs = [V.ref a] ∧ Same F H ∧ SqL K F a ws ∧ Rs K cm F ws ds ∧ srtP ds ∧ ∀ ws' p, H p = none → Rs K cm F ws' (ds.mergeSort leY) → Q (.ref p) (upd H p (.lst ws'))
theorem Rs.mem {K : PySem.W.Frag} {F : Hp} : ∀ {ws : List V} {ds : List Dat}, Rs K cm F ws ds → ∀ {us : List Value}, Vals ws us → PySem.W.EachIs (fun u (b : V × Dat) => RelV b.1 u ∧ R K cm F b.1 b.2) us (ws.zip ds)
  | _, _, .nil, _, .nil => .nil
  | _, _, .cons r rs, _, .cons q qs => .cons ⟨q, r⟩ (Rs.mem rs qs)
theorem zip_snd {K : PySem.W.Frag} {F : Hp} : ∀ {ws : List V} {ds : List Dat}, Rs K cm F ws ds → (ws.zip ds).map (·.2) = ds ∧ (ws.zip ds).length = ds.length
  | _, _, .nil => ⟨rfl, rfl⟩
  | _, _, .cons r rs => by
    obtain ⟨h1, h2⟩ := zip_snd rs
    exact ⟨by rw [List.zip_cons_cons, List.map_cons, h1], by rw [List.zip_cons_cons, List.length_cons, List.length_cons, h2]⟩
theorem each_out {K : PySem.W.Frag} {F : Hp} : ∀ {us : List Value} {bs : List (V × Dat)}, PySem.W.EachIs (fun u (b : V × Dat) => RelV b.1 u ∧ R K cm F b.1 b.2) us bs → Vals (bs.map (·.1)) us ∧ Rs K cm F (bs.map (·.1)) (bs.map (·.2))
  | _, _, .nil => ⟨.nil, .nil⟩
  | _, _, .cons h t => by
    obtain ⟨q1, q2⟩ := each_out t
    exact ⟨.cons h.1 q1, .cons h.2 q2⟩
theorem cr_srt (hu : X.A.units + 64 < cLine) : CallR X (.builtin "sorted") (rSrt X.K cm) := by
  intro pins s σ H vs us Q I r ⟨F, a, ws, ds, ev, e, hs, rs, ⟨p1, p2, p3, p4⟩, q⟩
  subst ev
  obtain ⟨its, rv, hl, _⟩ := I.list (e.seq hs)
  rw [Vals.ref1 r]
  obtain ⟨z1, z2⟩ := zip_snd rs
  have hm : (ws.zip ds).map (fun b : V × Dat => py b.2) = ds.map py := by
    have := congrArg (List.map py) z1
    rw [List.map_map] at this
    exact this
  have er := Rs.mem rs rv
  have er2 : PySem.W.EachIs (fun u (b : V × Dat) => ∃ as, Reads s.heap u (py b.2) as) its (ws.zip ds) := by
    have : ∀ {us : List Value} {bs : List (V × Dat)}, (∀ b ∈ bs, pl b.2 = true) → PySem.W.EachIs (fun u (b : V × Dat) => RelV b.1 u ∧ R X.K cm F b.1 b.2) us bs → PySem.W.EachIs (fun u (b : V × Dat) => ∃ as, Reads s.heap u (py b.2) as) us bs := by
      intro us bs hb h
      induction h with
      | nil => exact .nil
      | cons h t ih => exact .cons (R.reads I e h.2 (hb _ List.mem_cons_self) h.1) (ih fun b hb' => hb b (List.mem_cons_of_mem _ hb'))
    exact this (fun b hb => (p1 b.2 (by rw [← z1]; exact List.mem_map_of_mem hb)).1) er
  refine PySem.W.sorted_data (enc := fun b : V × Dat => py b.2) hl.isList er er2 (by rw [hm]; exact p2) (by rw [hm]; exact p3) (by rw [z2]; exact p4) (fun b hb => ?_) fun out ho hout => ?_
  · have := (p1 b.2 (by rw [← z1]; exact List.mem_map_of_mem hb)).2
    omega
  obtain ⟨q1, q2⟩ := each_out hout
  have e2 : ((ws.zip ds).mergeSort (PySem.W.dataLe false fun b : V × Dat => py b.2)).map (·.2) = ds.mergeSort leY := by
    rw [List.map_mergeSort (r := PySem.W.dataLe false fun b : V × Dat => py b.2) (s := leY) (f := fun b : V × Dat => b.2), z1]
    intro a _ b _
    rfl
  rw [e2] at q2
  obtain ⟨ep, he'⟩ := PyProof.Rows.sortedAll_at s.heap its (List.toArray out)
  have hlen : (((ws.zip ds).mergeSort (PySem.W.dataLe false fun b : V × Dat => py b.2)).map (·.1)).length ≤ sizeLine := by rw [q1.length, ho, z2]; exact p4
  exact ⟨.ref _, upd H (s.heap.objs.size + 1) (.lst _), I.laid (t' := s.toks) (fun _ _ => PyProof.Rows.sortedAll_old) (Nat.le_succ _) ⟨hlen, out, ep, q1, he'⟩, rfl, q _ _ (I.hok.fresh (Nat.le_succ _)) q2⟩
def sortD : List Dat → Option Dat
  | [.lst ds] => @ite _ (srtP ds) (Classical.propDecidable _) (some (.lst (ds.mergeSort leY))) none
  | _ => none
theorem cd_sort : ClD X cm (rSrt X.K cm) sortD := fun F H vs ds d Q e rs hg k => by
  unfold sortD at hg
  split at hg
  · obtain ⟨c, rfl⟩ := ite_some hg
    obtain ⟨v, rfl, r⟩ := rs.one
    obtain ⟨a, ws, rfl, h, q⟩ := r.lst_inv
    exact ⟨F, a, ws, _, rfl, e, .inl h, q, c, fun ws' p hp r' => new_lst e r' k p hp⟩
  · cases hg
theorem e_sorted {p : Pos} (hu : X.A.units + 64 < cLine) (hg : Gl X "sorted") (hm : X.mg "sorted" = none) (ha : PA X (e :: es) (ofA X.K cm fs)) (he : starEach (e :: es) X.env = (false, eval e X.env) :: starEach es X.env := by rfl) (hpl : (backTo pos (starEach es X.env)).any (·.1) = false := by rfl) :
    PE X (.Call (.Name "sorted" p) (e :: es) [] pos) (ofE X.K cm (app sortD fs)) := e_callB (cr_srt hu) cd_sort hg hm (by decide +kernel) ha (by decide) (by decide) he hpl
end
end
end Pq

namespace Pq
open PySem PySem.Spec PyProof.Rows L2
noncomputable section
section
variable {K : PySem.W.Frag} {cm : Str → Addr} {F F1 H H1 : Hp} {σ : L2.St} {ρ : Rho} {As : Nat → List Addr}
theorem ROs.app : ∀ {vs : List V} {xs : List SV} {A : List Addr} {ws : List V} {ys : List SV} {B : List Addr}, ROs K cm F H vs xs A → ROs K cm F H ws ys B → ROs K cm F H (vs ++ ws) (xs ++ ys) (A ++ B)
  | _, _, _, _, _, _, .nil, t => t
  | _, _, _, _, _, _, .cons r q, t => by
    rw [List.append_assoc]
    exact .cons r (ROs.app q t)
/-- a place's own object takes new objects in -/
theorem rel_grow (rel : Rel K cm F H σ ρ As) (x1 : Ext F H F1 H1) {i : Nat} {a : Addr} {o : HO} {v : V} {sv sv' : SV} {A : List Addr} (ha : a ∈ As i) (hi : ρ[i]? = some (some sv)) (hv : σ[i]? = some (some v)) (nA : ∀ b ∈ A, H b = none) (ndA : A.Nodup) (own : ∀ b ∈ A, F1 b = none ∧ ∃ o, H1 b = some o)
    (r : RO K cm F1 (upd H1 a o) v sv' (As i ++ A)) : Rel K cm F1 (upd H1 a o) σ (ρ.set i (some sv')) (fun j => if j = i then As i ++ A else As j) := by
  have r1 := rel.ext x1
  have out : ∀ b ∈ A, ∀ j, b ∉ As j := fun b hb j hj => by
    obtain ⟨_, o, q⟩ := rel.own j b hj
    rw [nA b hb] at q
    cases q
  refine ⟨?_, ?_, fun j sv1 h => ?_, fun j => ?_, fun j k hjk b hb hb' => ?_, fun j b hb => ?_⟩
  · rw [List.length_set]; exact rel.len
  · intro b u h
    have : b ≠ a := fun z => by
      rw [z, (r1.own i a ha).1] at h
      cases h
    rw [upd_ne this]
    exact r1.fh b u h
  · by_cases hj : i = j
    · subst hj
      have hl : i < ρ.length := (List.getElem?_eq_some_iff.mp hi).1
      rw [List.getElem?_set_self hl] at h
      cases h
      exact ⟨v, hv, by rw [if_pos rfl]; exact r⟩
    · rw [List.getElem?_set_ne hj] at h
      obtain ⟨w, h1, h2⟩ := r1.at_ j sv1 h
      exact ⟨w, h1, by rw [if_neg (fun z => hj z.symm)]; exact h2.out (rel.sep i j hj a ha)⟩
  · by_cases hj : j = i
    · simp only [if_pos hj]
      rw [List.nodup_append]
      exact ⟨rel.nd i, ndA, fun b hb c hc z => out c hc i (z ▸ hb)⟩
    · simp only [if_neg hj]; exact rel.nd j
  · by_cases hj : j = i
    · simp only [if_pos hj] at hb
      have hk : k ≠ i := fun z => hjk (hj.trans z.symm)
      simp only [if_neg hk] at hb'
      rcases List.mem_append.mp hb with z | z
      · exact rel.sep i k (fun z => hk z.symm) b z hb'
      · exact out b z k hb'
    · simp only [if_neg hj] at hb
      by_cases hk : k = i
      · simp only [if_pos hk] at hb'
        rcases List.mem_append.mp hb' with z | z
        · exact rel.sep j i hj b hb z
        · exact out b z j hb
      · simp only [if_neg hk] at hb'
        exact rel.sep j k hjk b hb hb'
  · have base : F1 b = none ∧ ∃ o, H1 b = some o := by
      by_cases hj : j = i
      · simp only [if_pos hj] at hb
        rcases List.mem_append.mp hb with z | z
        · exact r1.own i b z
        · exact own b z
      · simp only [if_neg hj] at hb
        exact r1.own j b hb
    refine ⟨base.1, ?_⟩
    by_cases hab : b = a
    · subst hab; exact ⟨o, upd_same⟩
    · obtain ⟨u, q⟩ := base.2
      exact ⟨u, by rw [upd_ne hab]; exact q⟩
theorem putF_new {f : Str} {y : V} : ∀ {fvs : List (Str × V)}, f ∉ fvs.map (·.1) → putF f y fvs = fvs ++ [(f, y)]
  | [], _ => rfl
  | (g, x) :: r, h => by
    rw [List.map_cons, List.mem_cons, not_or] at h
    rw [putF, if_neg (fun z => h.1 z.symm), putF_new h.2]
    rfl
end
section
variable {X : Cx} {cm : Str → Addr} {W : L2.WX} {a b e o : Expr} {es : List Expr} {fa fb f : Rho → Option Dat} {fs : Rho → Option (List Dat)} {g : Rho → Option SV} {pos : Pos}
/-! ### self.f = e, f new -/
def fldS (i : Nat) (c f : Str) (g : Rho → Option SV) : Rho → Res := fun ρ => match g ρ with
  | some x => match ρ[i]? with
    | some (some (.oo a c' fs xs)) => if c' = c ∧ f ∉ fs ∧ fs.length < 1000 then .nx (ρ.set i (some (.oo a c' (fs ++ [f]) (xs ++ [x])))) else .bad
    | _ => .bad
  | none => .bad
theorem p_fld (i : Nat) {c f : Str} {pos' : Pos} (hc : Cls X.K (cm c)) (hn : NoAttr X.K (cm c) f) (ho : PE X o (tVar i)) (he : PE X e (ofO X.K cm g)) (hs : swapsWith e (some (.Attribute o f pos')) pos.line X.env = pure false := by rfl) :
    PS X (.Assign [.Attribute o f pos'] e pos) (ofS X.K cm W (fldS i c f g)) := PS.imp (ps_fld ho he hs) fun D σ H ⟨F0, H0, ρ, ⟨F, As, rel, x, n⟩, q⟩ => by
  unfold fldS at q
  split at q
  case h_2 => exact q.elim
  rename_i sv e1
  split at q
  case h_2 => exact q.elim
  rename_i a c' fs xs e2
  split at q
  case isFalse => exact q.elim
  rename_i hh
  obtain ⟨ec, hf, hl⟩ := hh
  subst ec
  obtain ⟨v0, h1, r1⟩ := rel.at_ i _ e2
  refine ⟨F, ρ, As, sv, rel, e1, fun v F1 H1 A x1 r2 ndA nA => ⟨v0, h1, ?_⟩⟩
  obtain ⟨dx, fvs, B, rfl, eA, nF, hH, hk, rs⟩ := r1.oo_inv
  have hH1 := x1.h _ _ hH
  have aA : a ∈ As i := by rw [eA]; exact List.mem_cons_self
  refine ⟨a, _, dx, fvs, rfl, hH1, hc, hn, by rw [← List.length_map (f := (·.1)), hk]; exact hl, ?_⟩
  have hF1 := ext_none x1 hH nF
  have aB : a ∉ B := by
    have := rel.nd i
    rw [eA] at this
    exact (List.nodup_cons.mp this).1
  have aA2 : a ∉ A := fun z => by
    have := nA a z
    rw [hH] at this
    cases this
  have own : ∀ b ∈ A, F1 b = none ∧ ∃ o, H1 b = some o := fun b hb => r2.own b hb
  have hnew : f ∉ fvs.map (·.1) := by rw [hk]; exact hf
  have rr : RO X.K cm F1 (upd H1 a (.ins (cm c') dx (putF f v fvs))) (.ref a) (.oo a c' (fs ++ [f]) (xs ++ [sv])) (As i ++ A) := by
    rw [eA, putF_new hnew]
    refine .oo hF1 upd_same (by rw [List.map_append, hk]; rfl) ?_
    rw [List.map_append]
    have q1 := (rs.ext x1).out (o := .ins (cm c') dx (fvs ++ [(f, v)])) aB
    have q2 := r2.out (o := .ins (cm c') dx (fvs ++ [(f, v)])) aA2
    have q3 : ROs X.K cm F1 (upd H1 a (.ins (cm c') dx (fvs ++ [(f, v)]))) [v] [sv] (A ++ []) := .cons q2 .nil
    rw [List.append_nil] at q3
    exact ROs.app q1 q3
  refine q _ _ ⟨F1, _, rel_grow rel x1 aA e2 h1 nA ndA own rr, ext_upd (x.trans x1) hF1 (n i a aA), fun j b hb => ?_⟩
  by_cases hj : j = i
  · simp only [if_pos hj] at hb
    rcases List.mem_append.mp hb with z | z
    · exact n i b z
    · exact x.h.free (nA b z)
  · simp only [if_neg hj] at hb
    exact n j b hb
/-! ### x.f of settled objects -/
def lookF : List Str → List Dat → Str → Option Dat
  | k :: ks, x :: xs, j => if j = k then some x else lookF ks xs j
  | _, _, _ => none
theorem look_fld {K : PySem.W.Frag} {F : Hp} {f : Str} {x : Dat} : ∀ {fvs : List (Str × V)} {xs : List Dat}, Rs K cm F (fvs.map (·.2)) xs → lookF (fvs.map (·.1)) xs f = some x → ∃ v, fvs.lookup f = some v ∧ R K cm F v x
  | [], _, _, h => by cases h
  | p :: fvs, [], r, _ => by cases r
  | (k, y) :: fvs, x' :: xs, .cons r t, h => by
    rw [List.map_cons, lookF] at h
    by_cases hk : f = k
    · rw [if_pos hk] at h
      cases h
      exact ⟨y, by rw [List.lookup_cons, beq_iff_eq.mpr hk], r⟩
    · rw [if_neg hk] at h
      obtain ⟨v, h1, h2⟩ := look_fld t h
      exact ⟨v, by rw [List.lookup_cons, beq_eq_false_iff_ne.mpr hk]; exact h1, h2⟩
theorem R.obj_inv {K : PySem.W.Frag} {F : Hp} {v : V} {c : Str} {fs : List Str} {xs : List Dat} (h : R K cm F v (.obj c fs xs)) : ∃ a dx fvs, v = .ref a ∧ F a = some (.ins (cm c) dx fvs) ∧ fvs.map (·.1) = fs ∧ Rs K cm F (fvs.map (·.2)) xs := by
  cases h with
  | obj h k r => exact ⟨_, _, _, rfl, h, k, r⟩
def fldD (cs : List Str) (f : Str) (d : Dat) : Option Dat := match d with
  | .obj c fs xs => if c ∈ cs then lookF fs xs f else none
  | _ => none
theorem e_fld {cs : List Str} {f : Str} (hc : ∀ c ∈ cs, Cls X.K (cm c) ∧ NoAttr X.K (cm c) f) (ha : PE X a (ofE X.K cm fa)) (hb : attributeBase a f X.env (eval a X.env) = eval a X.env := by rfl) : PE X (.Attribute a f pos) (ofE X.K cm (un (fldD cs f) fa)) := PE.imp (pe_fld ha hb) fun σ H Q ⟨F, ρ, As, d, rel, hf, k⟩ => by
  obtain ⟨x, e1, hf⟩ := bind_some hf
  refine ⟨F, ρ, As, x, rel, e1, fun v F1 H1 x1 r1 => ?_⟩
  unfold fldD at hf
  split at hf
  · split at hf
    · rename_i c fs xs hmem
      obtain ⟨p, dx, fvs, rfl, h1, h2, h3⟩ := r1.obj_inv
      rw [← h2] at hf
      obtain ⟨w, q1, q2⟩ := look_fld h3 hf
      exact ⟨p, _, dx, fvs, w, rfl, x1.fh _ _ h1, (hc c hmem).1, (hc c hmem).2, q1, k w F1 H1 x1 q2⟩
    · cases hf
  · cases hf
/-! ### o.m(..), o settled -/
def methS (c m : Str) (g : List Dat → Option Out) (fo : Rho → Option Dat) (f : Rho → Option (List Dat)) : Rho → Option SV := fun ρ => (fo ρ).bind fun d => (f ρ).bind fun ds => match d with
  | .obj c' fl _ => if c' = c ∧ m ∉ fl then (g (d :: ds)).bind fun
    | .ok sv => some sv
    | .exc _ _ _ => none
    else none
  | _ => none
theorem lookup_none {f : Str} : ∀ {fvs : List (Str × V)}, f ∉ fvs.map (·.1) → fvs.lookup f = none
  | [], _ => rfl
  | (g, x) :: r, h => by
    rw [List.map_cons, List.mem_cons, not_or] at h
    rw [List.lookup_cons, beq_eq_false_iff_ne.mpr h.1]
    exact lookup_none h.2
variable {k : Nat} {fn : Addr} {fd : FuncData} {ps : List Str} {gg : List Dat → Option Out} {m c : Str} {apos : Pos}
theorem meth_run {K : PySem.W.Frag} {F F1 H H1 : Hp} {v : V} {vs : List V} {d : Dat} {ds : List Dat} {sv : SV} {Q : VK} {E : XK} {fl : List Str} {xs : List Dat} (hd : d = .obj c fl xs) (r1 : R K cm F v d) (x2 : Ext F H F1 H1) (r2 : Rs K cm F1 vs ds) (hg : (gg (d :: ds)).bind (fun | .ok sv => some sv | .exc _ _ _ => none) = some sv)
    (k : ∀ v F' H' A, Ext F1 H1 F' H' → RO K cm F' H' v sv A → A.Nodup → (∀ a ∈ A, H1 a = none) → Q v H') : spX K cm gg (v :: (vs ++ [])) H1 Q E := by
  rw [List.append_nil]
  exact spX_of (F := F1) (ds := d :: ds) x2.fh (.cons (r1.mono x2.f) r2) hg k
theorem o_meth (hc : Cls X.K (cm c)) (hm : Meth X.K (cm c) m fn) (G : FnOk X.prog X.w X.K X.mg X.base (L2.CX X.prog X.w) k fn fd ps (spX X.K cm gg)) (hr : Room k X.A) (hb : Binds X.K fd ps []) (ho : PE X o (ofE X.K cm fa)) (ha : PA X (e :: es) (ofA X.K cm fs))
    (hst : starEach (e :: es) X.env = (false, eval e X.env) :: starEach es X.env := by rfl) (hpl : (backTo pos (starEach es X.env)).any (·.1) = false := by rfl)
    {pl : Sem Bool} (ht : eval (.Call (.Attribute o m apos) (e :: es) [] pos) X.env = (do
      let ov ← eval o X.env
      standAt apos.atName
      let (f, first) ← holding [ov] (getMethod ov m pl)
      callWith pos f first (backTo pos (starEach (e :: es) X.env)) (backToKw pos (keywordEach [] X.env))) := by rfl) :
    PE X (.Call (.Attribute o m apos) (e :: es) [] pos) (ofO X.K cm (methS c m gg fa fs)) := PE.imp (pe_meth (pl := pl) (E := fun _ _ _ => False) ho hc hm G hr hb .nil passL ha hst hpl ht) fun σ H Q ⟨F, ρ, As, sv, rel, hf, q⟩ => by
  obtain ⟨d, e1, hf1⟩ := bind_some hf
  obtain ⟨ds, e2, hf2⟩ := bind_some hf1
  clear hf hf1
  refine ⟨F, ρ, As, d, rel, e1, fun v F1 H1 x1 r1 => ?_⟩
  cases d with
  | obj c' fl xs =>
    dsimp only at hf2
    split at hf2
    · rename_i hh
      obtain ⟨rfl, hm2⟩ := hh
      obtain ⟨p, dx, fvs, rfl, h1, h2, h3⟩ := id r1.obj_inv
      refine ⟨p, dx, fvs, rfl, x1.fh _ _ h1, lookup_none (by rw [h2]; exact hm2), F1, ρ, As, ds, rel.ext x1, e2, fun vs F2 H2 x2 r2 => ?_⟩
      exact meth_run rfl r1 x2 r2 hf2 fun v F3 H3 A x3 r3 nd n => q v F3 H3 A ((x1.trans x2).trans x3) r3 nd fun a h => (x1.trans x2).h.free (n a h)
    · cases hf2
  | _ => cases hf2
theorem o_meth0 (hc : Cls X.K (cm c)) (hm : Meth X.K (cm c) m fn) (G : FnOk X.prog X.w X.K X.mg X.base (L2.CX X.prog X.w) k fn fd ps (spX X.K cm gg)) (hr : Room k X.A) (hb : Binds X.K fd ps []) (ho : PE X o (ofE X.K cm fa))
    {pl : Sem Bool} (ht : eval (.Call (.Attribute o m apos) [] [] pos) X.env = (do
      let ov ← eval o X.env
      standAt apos.atName
      let (f, first) ← holding [ov] (getMethod ov m pl)
      callWith pos f first (backTo pos (starEach [] X.env)) (backToKw pos (keywordEach [] X.env))) := by rfl) :
    PE X (.Call (.Attribute o m apos) [] [] pos) (ofO X.K cm (methS c m gg fa nilA)) := PE.imp (pe_meth0 (pl := pl) (E := fun _ _ _ => False) ho hc hm G hr hb .nil passL ht) fun σ H Q ⟨F, ρ, As, sv, rel, hf, q⟩ => by
  obtain ⟨d, e1, hf1⟩ := bind_some hf
  obtain ⟨ds, e2, hf2⟩ := bind_some hf1
  clear hf hf1
  cases e2
  refine ⟨F, ρ, As, d, rel, e1, fun v F1 H1 x1 r1 => ?_⟩
  cases d with
  | obj c' fl xs =>
    dsimp only at hf2
    split at hf2
    · rename_i hh
      obtain ⟨rfl, hm2⟩ := hh
      obtain ⟨p, dx, fvs, rfl, h1, h2, h3⟩ := id r1.obj_inv
      refine ⟨p, dx, fvs, rfl, x1.fh _ _ h1, lookup_none (by rw [h2]; exact hm2), ?_⟩
      exact meth_run (vs := []) rfl r1 (Ext.refl x1.fh) .nil hf2 fun v F3 H3 A x3 r3 nd n => q v F3 H3 A (x1.trans x3) r3 nd fun a h => x1.h.free (n a h)
    · cases hf2
  | _ => cases hf2
/-! ### C(..): __init__ stores, and the object is settled -/
def initS (n m : Nat) (b : Rho → Res) (c : Str) (x : Addr) (ds : List Dat) : Option SV := if ds.length = m then match b (some (.oo x c [] []) :: startR n ds) with
    | .nx ρ => match ρ[0]? with
      | some (some sv) => some sv
      | _ => none
    | _ => none
  else none
def spI (K : PySem.W.Frag) (cm : Str → Addr) (c : Str) (g : Addr → List Dat → Option SV) : Sp := fun vs H Q E => ∃ x dx vs' H1 F ds sv, vs = .ref x :: vs' ∧ H = upd (upd H1 dx (.own x)) x (.ins (cm c) dx []) ∧ H1 x = none ∧ H1 dx = none ∧ dx ≠ x ∧ Same F H1 ∧ Rs K cm F vs' ds ∧ g x ds = some sv ∧
  (∃ fs xs, sv = .oo x c fs xs) ∧ ∀ F' H' A, Ext F H1 F' H' → RO K cm F' H' (.ref x) sv A → A.Nodup → (∀ a ∈ A, H1 a = none) → Q .non H'
end
section
variable {P : Program} {w : World} {K : PySem.W.Frag} {mg : Str → Option Value} {base : Heap} {cm : Str → Addr}
theorem fn_init {qual : Str} {st : Stmt} {f : Addr} {fd : FuncData} {self : Str} {N ps : List Str} {k : Nat} {g : Addr → List Dat → Option SV} {b : Rho → Res} {c : Str} (hg : g = initS N.length ps.length b c) (F : L2.Fun K "__init__" qual st f fd) (S : FnScope (self :: N) (self :: ps) (defScope st))
    (hb : ∀ (cdv : Value) (A : Around) (outer : List Env) (s : Shared) (H : Hp) (E : XK) (W : L2.WX), Room k (A.deeper (envOfC qual (defScope st) s.heap.objs.size f cdv)) → PSs (cxOf (L2.CX P w) P w K mg base (self :: N) qual (defScope st) f cdv A outer s H E).nox (defBody st) (ofS K cm W b)) :
    FnOk P w K mg base (L2.CX P w) (k + 1) f fd (self :: ps) (spI K cm c g) := by
  subst hg
  refine F.okX S (fun vs H Q E ⟨x, dx, vs', H1, F, ds, sv, ev, eH, _, _, _, e, rs, hg, _, k⟩ => ?_) fun cdv A outer s H vs Q E hr ⟨x, dx, vs', H1, F, ds, sv, ev, eH, hx, hdx, hne, e, rs, hg, hoo, k⟩ => ?_
  · subst ev
    unfold initS at hg
    split at hg
    · rename_i c
      rw [List.length_cons, List.length_cons, rs.length, c]
    · cases hg
  · subst ev eH
    obtain ⟨fs, xs, rfl⟩ := hoo
    have hxF : F x = none := e.free hx
    have hs : Same F (upd (upd H1 dx (.own x)) x (.ins (cm c) dx [])) := fun b u h => by
      have h1 := e _ _ h
      rw [upd_ne (ne_of_none h1 hx), upd_ne (ne_of_none h1 hdx)]
      exact h1
    have xt : Ext F H1 F (upd (upd H1 dx (.own x)) x (.ins (cm c) dx [])) := ⟨Same.refl F, fun b u h => by
      rw [upd_ne (ne_of_none h hx), upd_ne (ne_of_none h hdx)]
      exact h, hs, fun a o h z => by rw [h] at z; cases z⟩
    have st := rel_start (N := N) hs rs
    refine ⟨_, PSs.nox (hb cdv A outer s _ E (fun _ _ _ _ => False) hr), F, H1, some (.oo x c [] []) :: startR N.length ds, ⟨F, fun j => if j = 0 then [x] else [], ⟨?_, hs, fun i sv h => ?_, fun i => ?_, fun i j hij a ha => ?_, fun i a ha => ?_⟩, xt, fun i a ha => ?_⟩, ?_⟩
    · show (L2.start (self :: N) (.ref x :: vs')).length = _
      have := st.len
      unfold L2.start at this ⊢
      simp only [List.length_append, List.length_map, List.length_cons, List.length_replicate] at this ⊢
      omega
    · cases i with
      | zero =>
        cases h
        refine ⟨.ref x, rfl, ?_⟩
        simp only [if_true]
        exact .oo (dx := dx) hxF upd_same rfl .nil
      | succ i =>
        obtain ⟨v, h1, h2⟩ := st.at_ i sv (by simpa using h)
        refine ⟨v, ?_, ?_⟩
        · unfold L2.start at h1 ⊢
          simpa using h1
        · simpa using h2
    · by_cases hi : i = 0
      · simp [hi]
      · simp [hi]
    · by_cases hi : i = 0
      · have hj : ¬ j = 0 := fun z => hij (hi.trans z.symm)
        simp [hj]
      · simp [hi] at ha
    · by_cases hi : i = 0
      · simp [hi] at ha
        subst ha
        exact ⟨hxF, _, upd_same⟩
      · simp [hi] at ha
    · by_cases hi : i = 0
      · simp [hi] at ha
        subst ha
        exact hx
      · simp [hi] at ha
    · unfold initS at hg
      split at hg
      · split at hg
        · rename_i ρ' e1
          rw [e1]
          rintro σ' H' ⟨F2, As, rel, x2, n⟩
          split at hg
          · rename_i sv e2
            cases hg
            obtain ⟨v, h1, h2⟩ := rel.at_ 0 _ e2
            obtain ⟨dx', fvs, B, rfl, _⟩ := h2.oo_inv
            exact k F2 H' (As 0) x2 h2 (rel.nd 0) (n 0)
          · cases hg
        · cases hg
      · cases hg
end
/-- what an object is, settled, wherever it is laid -/
def mkS (g : Addr → List Dat → Option SV) (c : Str) (ds : List Dat) : Option Dat := @dite _ (∃ d, ∀ x, ∃ fs xs, g x ds = some (.oo x c fs xs) ∧ frz (.oo x c fs xs) = d) (Classical.propDecidable _) (fun h => some (Classical.choose h)) fun _ => none
theorem mkS_is {g : Addr → List Dat → Option SV} {c : Str} {ds : List Dat} {d : Dat} (h : ∀ x, ∃ fs xs, g x ds = some (.oo x c fs xs) ∧ frz (.oo x c fs xs) = d) : mkS g c ds = some d := by
  unfold mkS
  have hh : ∃ d, ∀ x, ∃ fs xs, g x ds = some (.oo x c fs xs) ∧ frz (.oo x c fs xs) = d := ⟨d, h⟩
  rw [dif_pos hh]
  have q := Classical.choose_spec hh
  obtain ⟨fs, xs, h1, h2⟩ := h 0
  obtain ⟨fs', xs', h3, h4⟩ := q 0
  rw [h1] at h3
  cases h3
  rw [← h4, h2]
theorem mkS_inv {g : Addr → List Dat → Option SV} {c : Str} {ds : List Dat} {d : Dat} (h : mkS g c ds = some d) : ∀ x, ∃ fs xs, g x ds = some (.oo x c fs xs) ∧ frz (.oo x c fs xs) = d := by
  unfold mkS at h
  split at h
  · rename_i hh
    cases h
    exact Classical.choose_spec hh
  · cases h
section
variable {X : Cx} {cm : Str → Addr} {e : Expr} {es : List Expr} {fs : Rho → Option (List Dat)} {pos p : Pos} {k : Nat} {fn : Addr} {fd : FuncData} {ps : List Str} {g : Addr → List Dat → Option SV} {x c : Str}
theorem mk_run {F H : Hp} {vs : List V} {ds : List Dat} {d : Dat} {Q : VK} {E : XK} (e : Same F H) (rs : Rs X.K cm F vs ds) (hg : mkS g c ds = some d) (q : ∀ v F' H', Ext F H F' H' → R X.K cm F' v d → Q v H') (x dx : Addr) (hx : H x = none) (hdx : H dx = none) (hne : dx ≠ x) :
    spI X.K cm c g (.ref x :: (vs ++ [])) (upd (upd H dx (.own x)) x (.ins (cm c) dx [])) (fun v H2 => v = .non ∧ Q (.ref x) H2) E := by
  obtain ⟨fs, xs, h1, h2⟩ := mkS_inv hg x
  rw [List.append_nil]
  refine ⟨x, dx, vs, H, F, ds, _, rfl, rfl, hx, hdx, hne, e, rs, h1, ⟨fs, xs, rfl⟩, fun F' H' A x2 r nd n => ⟨rfl, ?_⟩⟩
  subst h2
  have sub : ∀ a ∈ A, F' a = none := fun a h => (r.own a h).1
  refine q _ (plus F' H' A) H' ⟨x2.f.trans (plus_same sub), x2.h, plus_le x2.fh, fun a o z w => ?_⟩ (r.frz x2.fh)
  by_cases ha : a ∈ A
  · exact n a ha
  · rw [plus_out ha] at z
    exact x2.new a o z w
theorem e_make (M : Mk X.K (cm c) fn) (G : FnOk X.prog X.w X.K X.mg X.base (L2.CX X.prog X.w) k fn fd ps (spI X.K cm c g)) (hr : Room (k + 1) X.A) (hg : Gl X x) (hm : X.mg x = some (.ref (cm c))) (hb : Binds X.K fd ps []) (ha : PA X (e :: es) (ofA X.K cm fs))
    (hdb : (x == ("__debug__" : Str)) = false := by decide) (he : starEach (e :: es) X.env = (false, eval e X.env) :: starEach es X.env := by rfl) (hpl : (backTo pos (starEach es X.env)).any (·.1) = false := by rfl) : PE X (.Call (.Name x p) (e :: es) [] pos) (ofE X.K cm (app (mkS g c) fs)) :=
  PE.imp (pe_make (E := fun _ _ _ => False) M G hr hg hm hb .nil passL ha hdb he hpl) fun σ H Q ⟨F, ρ, As, d, rel, hf, q⟩ => by
    obtain ⟨ds, e1, hf⟩ := bind_some hf
    refine ⟨F, ρ, As, ds, rel, e1, fun vs F1 H1 x1 r1 y dy h1 h2 h3 => ?_⟩
    exact mk_run x1.fh r1 hf (fun v F2 H2 x2 r2 => q v F2 H2 (x1.trans x2) r2) y dy h1 h2 h3
end
end
end Pq

namespace Pq
open PySem PySem.Spec PyProof.Rows L2
noncomputable section
/-! ### a def of one object that returns two of its fields, called from within a built-in -/
theorem key2_call {P : Program} {w : World} {K : PySem.W.Frag} {A : Around} {x qual p f1 f2 : Str} {st : Stmt} {f a C dx : Addr} {fd : FuncData} {p1 p2 p3 p4 p5 p6 : Pos} {n5 : Nat} {s : Shared} {mA : Str → Option Value} {u1 u2 : Value} {d1 d2 : PyData}
    (F : L2.Fun K x qual st f fd) (S : FnScope [p] [p] (defScope st)) (hp : (defScope st).names.lookup p = some .local) (hdb : (p == ("__debug__" : Str)) = false)
    (hbody : defBody st = [.Return (some (.Tuple [.Attribute (.Name p p1) f1 p2, .Attribute (.Name p p3) f2 p4] n5 p5)) p6]) (hb : Binds K fd [p] [])
    (KX : K.In s.heap) (lim : s.heap.NoLimit) (hroom : A.depth < recursionLimit)
    (O : ObjM s.heap a dx C mA) (hc : Cls K C) (n1 : NoAttr K C f1) (n2 : NoAttr K C f2) (h1 : mA f1 = some u1) (h2 : mA f2 = some u2) (g1 : PySem.W.handedIn u1 = true) (g2 : PySem.W.handedIn u2 = true)
    (r1 : Reads s.heap u1 d1 []) (r2 : Reads s.heap u2 d2 []) :
    wpAny (model P w) A (call (.ref f) [.ref a]) (PySem.W.KeyPure (.tuple [d1, d2]) s) (fun _ _ => False) s := by
  obtain ⟨oc, od, kV, doc, pm, an, cdv, ct, osl, rfl, lk, hcd⟩ := F.ex
  have hb1 := hb s [.ref a] KX rfl
  refine wpAny_call ?_
  refine codeAny_call_function hroom (KX _ _ lk) rfl S.co S.gen rfl (PySem.W.codeRec_of KX hcd) (hb1 _ _ _ _ ?_)
  have hkind : ∀ y ∈ [p].zip [Value.ref a], (defScope st).names.lookup y.1 = some .local ∨ ((defScope st).names.lookup y.1 = some .cell ∧ ((cellsFrom (s.heap.objs.size + 1) (defScope st).names []).lookup y.1).isSome = true) := fun ⟨n, v⟩ hy => by
    simp at hy
    rw [hy.1]
    exact .inl hp
  refine wpAny_newFunctionEnv_cells S.kind hkind fun env he s1 x1 => ?_
  subst he
  refine ⟨lim.keeps x1.toInCall.keep, codeAny_func ?_⟩
  rw [hbody]
  obtain ⟨h', tk, es, kp⟩ := x1.done
  have ns := x1.toInCall.ns
  have hm : bindL (envOfC qual (defScope st) s.heap.objs.size f cdv).kindOf [(p, Value.ref a)] (fun _ => none) p = some (.ref a) := by
    have hk : (envOfC qual (defScope st) s.heap.objs.size f cdv).kindOf p = some .local := hp
    simp [bindL, hk]
  have O1 : ObjM s1.heap a dx C mA := ⟨by rw [es]; exact kp _ _ O.obj, O.ns.keeps (by rw [es]; exact kp), O.ne⟩
  have KX1 : K.In s1.heap := KX.keeps (by rw [es]; exact kp)
  refine wpAny_execs_cons (wpAny_Return_some (wpAny_Tuple_spliced ?_))
  show wpAny _ _ (spliced ((false, eval _ _) :: (false, eval _ _) :: backTo p5 (starEach [] _))) _ _ s1
  refine Calls.spliced_cons (attr_of rfl (wpAny_Name (wpAny_loadName_local S.kind hp ns hm ?_) hdb))
  refine get_map KX1 O1 (hc.get f1) hc.hd n1 h1 g1 ?_
  refine Calls.spliced_cons (attr_of rfl (wpAny_Name (wpAny_loadName_local S.kind hp ns hm ?_) hdb))
  refine get_map (s := { s1 with toks := s1.toks + 1 }) KX1 O1 (hc.get f2) hc.hd n2 h2 g2 ?_
  refine Calls.spliced_nil ?_
  refine ⟨by show 2 ≤ sizeLine; decide +kernel, ?_⟩
  subst es
  refine ⟨h'.push { cls := .type "tuple", data := .seq #[u1, u2] }, tk + 1 + 1, rfl, fun b o e => Heap.get?_push_of_some _ (kp b o e), ?_⟩
  have z1 := PyProof.Rows.Reads.keeps (fun b o e => Heap.get?_push_of_some { cls := .type "tuple", data := .seq #[u1, u2] } (kp b o e)) r1
  have z2 := PyProof.Rows.Reads.keeps (fun b o e => Heap.get?_push_of_some { cls := .type "tuple", data := .seq #[u1, u2] } (kp b o e)) r2
  exact .tuple (as := []) (Heap.get?_push_size _ rfl) rfl rfl (.cons (as := []) (bs := []) z1 (.cons (as := []) (bs := []) z2 .nil))
/-! ### keys without lists -/
mutual
def tf : Dat → Bool
  | .non => true | .bl _ => true | .int _ => true | .str _ => true
  | .tup xs => tfs xs
  | .lst _ => false | .dct _ _ => false | .obj _ _ _ => false | .scr _ => false
def tfs : List Dat → Bool
  | [] => true
  | x :: xs => tf x && tfs xs
end
section
variable {X : Cx} {cm : Str → Addr} {pins : List (Addr × Obj)} {σ : L2.St} {F H : Hp} {s : Shared}
mutual
theorem R.readsT (I : Inv X pins σ H s) (e : Same F H) : ∀ {v : V} {d : Dat}, R X.K cm F v d → tf d = true → ∀ {u : Value}, RelV v u → Reads s.heap u (py d) []
  | _, _, .non, _, _, r => by cases r; rw [py]; exact .none
  | _, _, .bl b, _, _, r => by cases r; rw [py]; exact .bool b
  | _, _, .int i, _, _, r => by obtain ⟨t, rfl⟩ := r; rw [py]; exact .int i t
  | _, _, .str x, _, _, r => by obtain ⟨t, rfl⟩ := r; rw [py]; exact .str x t
  | _, _, .tup h rs, hp, _, r => by
    cases r
    obtain ⟨its, rv, o, ho, hc, n, hd⟩ := R.at_tup I e h
    rw [tf] at hp
    rw [py]
    exact .tuple ho hc hd (Rs.readsT I e rs hp rv)
  | _, _, .lst h rs, hp, _, r => by rw [tf] at hp; cases hp
  | _, _, .dct h k r, hp, _, _ => by rw [tf] at hp; cases hp
  | _, _, .obj h k r, hp, _, _ => by rw [tf] at hp; cases hp
  | _, _, .scr h r, hp, _, _ => by rw [tf] at hp; cases hp
theorem Rs.readsT (I : Inv X pins σ H s) (e : Same F H) : ∀ {vs : List V} {ds : List Dat}, Rs X.K cm F vs ds → tfs ds = true → ∀ {us : List Value}, Vals vs us → ReadsAll s.heap us (pys ds) []
  | _, _, .nil, _, _, r => by cases r; rw [pys]; exact .nil
  | _, _, .cons r1 rs, hp, _, .cons q qs => by
    rw [tfs, Bool.and_eq_true] at hp
    have z := R.readsT I e r1 hp.1 q
    have y := Rs.readsT I e rs hp.2 qs
    rw [pys]
    exact ReadsAll.cons (as := []) (bs := []) z y
end
end
/-! ### sorted(xs, key=f), f: two fields -/
def keyD (cs : List Str) (f1 f2 : Str) (d : Dat) : Option Dat := (fldD cs f1 d).bind fun x => (fldD cs f2 d).bind fun y => if tf x && tf y then some (.tup [x, y]) else none
def keysD (cs : List Str) (f1 f2 : Str) : List Dat → Option (List Dat)
  | [] => some []
  | d :: ds => (keyD cs f1 f2 d).bind fun k => (keysD cs f1 f2 ds).bind fun ks => some (k :: ks)
def sortK (ds ks : List Dat) : List Dat := ((ds.zip ks).mergeSort fun p q => leY p.2 q.2).map (·.1)
def srtKP (ds ks : List Dat) : Prop := (∀ k ∈ ks, (py k).depth ≤ 50) ∧ PySem.W.AllAlike (ks.map py) ∧ PySem.W.Sortable (ks.map py) ∧ ds.length ≤ sizeLine
def rSrtK (K : PySem.W.Frag) (cm : Str → Addr) (cs : List Str) (f1 f2 : Str) (f : Addr) : List V → List V → Hp → VK → Prop := fun vs zs H Q => ∃ F a ws ds ks, vs = [V.ref a] ∧ zs = [V.ref f] ∧ Same F H ∧ SqL K F a ws ∧ Rs K cm F ws ds ∧ keysD cs f1 f2 ds = some ks ∧ srtKP ds ks ∧
  ∀ ws' p, H p = none → Rs K cm F ws' (sortK ds ks) → Q (.ref p) (upd H p (.lst ws'))
theorem keys_len {cs : List Str} {f1 f2 : Str} : ∀ {ds ks : List Dat}, keysD cs f1 f2 ds = some ks → ks.length = ds.length
  | [], _, h => by cases h; rfl
  | d :: ds, _, h => by
    rw [keysD] at h
    obtain ⟨k, _, h⟩ := bind_some h
    obtain ⟨ks, e, h⟩ := bind_some h
    cases h
    rw [List.length_cons, List.length_cons, keys_len e]
theorem keys_mem {cs : List Str} {f1 f2 : Str} : ∀ {ds ks : List Dat}, keysD cs f1 f2 ds = some ks → ∀ p ∈ ds.zip ks, keyD cs f1 f2 p.1 = some p.2
  | [], _, h, p, hp => by simp at hp
  | d :: ds, _, h, p, hp => by
    rw [keysD] at h
    obtain ⟨k, e1, h⟩ := bind_some h
    obtain ⟨ks, e, h⟩ := bind_some h
    cases h
    rw [List.zip_cons_cons] at hp
    rcases List.mem_cons.mp hp with z | z
    · rw [z]; exact e1
    · exact keys_mem e p z
theorem zip2 {K : PySem.W.Frag} {cm : Str → Addr} {F : Hp} : ∀ {ws : List V} {ds ks : List Dat}, Rs K cm F ws ds → ks.length = ds.length → (∀ {us : List Value}, Vals ws us → PySem.W.EachIs (fun u (b : V × (Dat × Dat)) => RelV b.1 u ∧ R K cm F b.1 b.2.1) us (ws.zip (ds.zip ks))) ∧ (ws.zip (ds.zip ks)).map (·.2) = ds.zip ks ∧ (ws.zip (ds.zip ks)).map (fun b => b.2.2) = ks ∧ (ws.zip (ds.zip ks)).length = ds.length
  | _, _, [], .nil, _ => ⟨fun r => by cases r; exact .nil, rfl, rfl, rfl⟩
  | _, _, [], .cons _ _, h => by simp at h
  | _, _, _ :: _, .nil, h => by simp at h
  | _, _, k :: ks, .cons r rs, h => by
    obtain ⟨q1, q2, q3, q4⟩ := zip2 rs (ks := ks) (by simpa using h)
    refine ⟨fun rv => ?_, ?_, ?_, ?_⟩
    · cases rv with
      | cons a b => exact .cons ⟨a, r⟩ (q1 b)
    · rw [List.zip_cons_cons, List.zip_cons_cons, List.map_cons, q2]
    · rw [List.zip_cons_cons, List.zip_cons_cons, List.map_cons, q3]
    · rw [List.zip_cons_cons, List.zip_cons_cons, List.length_cons, List.length_cons, q4]
theorem each_out2 {K : PySem.W.Frag} {cm : Str → Addr} {F : Hp} : ∀ {us : List Value} {bs : List (V × (Dat × Dat))}, PySem.W.EachIs (fun u (b : V × (Dat × Dat)) => RelV b.1 u ∧ R K cm F b.1 b.2.1) us bs → Vals (bs.map (·.1)) us ∧ Rs K cm F (bs.map (·.1)) (bs.map fun b => b.2.1)
  | _, _, .nil => ⟨.nil, .nil⟩
  | _, _, .cons h t => by
    obtain ⟨q1, q2⟩ := each_out2 t
    exact ⟨.cons h.1 q1, .cons h.2 q2⟩
theorem fld_at {X : Cx} {cm : Str → Addr} {pins : List (Addr × Obj)} {σ : L2.St} {F H : Hp} {s : Shared} (I : Inv X pins σ H s) (e : Same F H) {cs : List Str} {f1 f2 : Str} {v : V} {d k : Dat} {u : Value} (r : R X.K cm F v d) (rv : RelV v u) (h : keyD cs f1 f2 d = some k) :
    ∃ a dx c mA u1 u2 k1 k2, c ∈ cs ∧ u = .ref a ∧ ObjM s.heap a dx (cm c) mA ∧ mA f1 = some u1 ∧ mA f2 = some u2 ∧ PySem.W.handedIn u1 = true ∧ PySem.W.handedIn u2 = true ∧ Reads s.heap u1 k1 [] ∧ Reads s.heap u2 k2 [] ∧ py k = .tuple [k1, k2] := by
  obtain ⟨x, e1, h'⟩ := bind_some h
  obtain ⟨y, e2, h''⟩ := bind_some h'
  clear h h'
  by_cases ht : (tf x && tf y) = true
  case neg =>
    rw [if_neg ht] at h''
    cases h''
  rw [if_pos ht] at h''
  rw [Bool.and_eq_true] at ht
  cases h''
  cases d with
  | obj c fs xs =>
    unfold fldD at e1 e2
    dsimp only at e1 e2
    split at e1
    case isFalse => cases e1
    rename_i hc
    rw [if_pos hc] at e2
    obtain ⟨a, dx, fvs, rfl, h1, h2, h3⟩ := r.obj_inv
    rw [← h2] at e1 e2
    obtain ⟨w1, l1, q1⟩ := look_fld h3 e1
    obtain ⟨w2, l2, q2⟩ := look_fld h3 e2
    obtain ⟨mA, O, ro, _, _, _⟩ := ins_get I.hok (e _ _ h1)
    obtain ⟨u1, hu1, ru1⟩ := RelO.some_of (v := w1) (o := mA f1) (by rw [← l1]; exact ro f1)
    obtain ⟨u2, hu2, ru2⟩ := RelO.some_of (v := w2) (o := mA f2) (by rw [← l2]; exact ro f2)
    exact ⟨a, dx, c, mA, u1, u2, py x, py y, hc, rv, O, hu1, hu2, handed_of ru1, handed_of ru2, R.readsT I e q1 ht.1 ru1, R.readsT I e q2 ht.2 ru2, by simp [py, pys]⟩
  | _ => cases e1
theorem cr_srtK {X : Cx} {cm : Str → Addr} {cs : List Str} {x qual p f1 f2 : Str} {st : Stmt} {f : Addr} {fd : FuncData} {p1 p2 p3 p4 p5 p6 : Pos} {n5 : Nat} (hr : Room 1 X.A)
    (F : L2.Fun X.K x qual st f fd) (S : FnScope [p] [p] (defScope st)) (hp : (defScope st).names.lookup p = some .local) (hdb : (p == ("__debug__" : Str)) = false)
    (hbody : defBody st = [.Return (some (.Tuple [.Attribute (.Name p p1) f1 p2, .Attribute (.Name p p3) f2 p4] n5 p5)) p6]) (hb : Binds X.K fd [p] [])
    (hc : ∀ c ∈ cs, Cls X.K (cm c) ∧ NoAttr X.K (cm c) f1 ∧ NoAttr X.K (cm c) f2) : CallRK X (.builtin "sorted") [Str.ofString "key"] (rSrtK X.K cm cs f1 f2 f) := by
  intro pins s σ H vs zs us ws Q I r rz ⟨F0, a, wv, ds, ks, ev, ez, e, hs, rs, hk, ⟨b1, b2, b3, b4⟩, q⟩
  subst ev ez
  obtain ⟨its, rv, hl, _⟩ := I.list (e.seq hs)
  rw [Vals.ref1 r]
  obtain ⟨w1, rfl, ew⟩ := vals1 rz
  obtain rfl : w1 = Value.ref f := ew
  have kl := keys_len hk
  have km := keys_mem hk
  obtain ⟨z1, z2, z3, z4⟩ := zip2 rs kl
  have hm : (wv.zip (ds.zip ks)).map (fun b : V × (Dat × Dat) => py b.2.2) = ks.map py := by
    have := congrArg (List.map py) z3
    rw [List.map_map] at this
    exact this
  have e0 := I.env0
  have lim : s.heap.NoLimit := e0.mod.nolimit.keeps fun b o e => (e0.bs b o e).1
  refine PySem.W.sorted_key_data (b := false) (fun b : V × (Dat × Dat) => py b.2.2) hl.isList (z1 rv) (by rw [hm]; exact b2) (by rw [hm]; exact b3) (by rw [z4]; exact b4) (fun b hb' => ?_) (ksk_s1 _ _) (fun _ => ksk_l1 _ _) (fun _ => ksk_t1 _ _) (fun u b ⟨ru, rb⟩ hbm h tk kp => ?_) fun out c h' tk kp _ hD ho eo => ?_
  · have := b1 b.2.2 (by rw [← z3]; exact List.mem_map_of_mem hb')
    have := hr.un
    omega
  · have hz : b.2 ∈ ds.zip ks := by rw [← z2]; exact List.mem_map_of_mem hbm
    obtain ⟨a', dx, cc, mA, u1, u2, k1, k2, hcc, rfl, O, hu1, hu2, g1, g2, r1, r2, epy⟩ := fld_at I e rb ru (km b.2 hz)
    rw [epy]
    obtain ⟨c1, c2, c3⟩ := hc cc hcc
    exact key2_call (s := { s with heap := h, toks := tk }) F S hp hdb hbody hb (I.kIn.keeps kp) (lim.keeps kp) (by have := hr.dp; show X.A.depth < _; omega) ⟨kp _ _ O.obj, O.ns.keeps kp, O.ne⟩ c1 c2 c3 hu1 hu2 g1 g2 (PyProof.Rows.Reads.keeps kp r1) (PyProof.Rows.Reads.keeps kp r2)
  obtain ⟨q1, q2⟩ := each_out2 eo
  have e2 : ((wv.zip (ds.zip ks)).mergeSort (PySem.W.dataLe false fun b : V × (Dat × Dat) => py b.2.2)).map (fun b => b.2.1) = sortK ds ks := by
    have zz : ((wv.zip (ds.zip ks)).mergeSort (PySem.W.dataLe false fun b : V × (Dat × Dat) => py b.2.2)).map (fun b => b.2) = (ds.zip ks).mergeSort fun p q => leY p.2 q.2 := by
      rw [List.map_mergeSort (r := PySem.W.dataLe false fun b : V × (Dat × Dat) => py b.2.2) (s := fun p q : Dat × Dat => leY p.2 q.2) (f := fun b : V × (Dat × Dat) => b.2) (fun _ _ _ _ => rfl), z2]
    unfold sortK
    rw [← zz, List.map_map]
    rfl
  rw [e2] at q2
  have hlen : (((wv.zip (ds.zip ks)).mergeSort (PySem.W.dataLe false fun b : V × (Dat × Dat) => py b.2.2)).map (·.1)).length ≤ sizeLine := by rw [q1.length, ho, z4]; exact b4
  exact ⟨.ref _, upd H (s.heap.objs.size + 1) (.lst _), I.laid (t' := tk) kp (Nat.le_succ _) ⟨hlen, out, c, q1, hD⟩, rfl, q _ _ (I.hok.fresh (Nat.le_succ _)) q2⟩
end
end Pq

namespace Pq
open PySem PySem.Spec PyProof.Rows L2
noncomputable section
section
variable {X : Cx} {cm : Str → Addr} {W : L2.WX} {a b e : Expr} {es : List Expr} {fa fb f : Rho → Option Dat} {fs : Rho → Option (List Dat)} {pos p : Pos}
/-! ### sorted(xs, key=f) -/
def sortKD (cs : List Str) (f1 f2 : Str) (d : Dat) : Option Dat := match d with
  | .lst ds => (keysD cs f1 f2 ds).bind fun ks => @ite _ (srtKP ds ks) (Classical.propDecidable _) (some (.lst (sortK ds ks))) none
  | _ => none
theorem e_sortK {cs : List Str} {x qual q f1 f2 : Str} {st : Stmt} {fn : Addr} {fd : FuncData} {p1 p2 p3 p4 p5 p6 kp1 kp2 : Pos} {n5 : Nat} (hr : Room 1 X.A)
    (F : L2.Fun X.K x qual st fn fd) (S : FnScope [q] [q] (defScope st)) (hb : Binds X.K fd [q] []) (hgf : Gl X x) (hmf : X.mg x = some (.ref fn))
    (hc : ∀ c ∈ cs, Cls X.K (cm c) ∧ NoAttr X.K (cm c) f1 ∧ NoAttr X.K (cm c) f2) (hg : Gl X "sorted") (hm : X.mg "sorted" = none) (ha : PE X a (ofE X.K cm fa))
    (hbody : defBody st = [.Return (some (.Tuple [.Attribute (.Name q p1) f1 p2, .Attribute (.Name q p3) f2 p4] n5 p5)) p6] := by rfl) (hp : (defScope st).names.lookup q = some .local := by rfl) (hdb : (q == ("__debug__" : Str)) = false := by decide) (hdx : (x == ("__debug__" : Str)) = false := by decide)
    (he : backTo pos (starEach [a] X.env) = (false, eval a X.env) :: backTo pos (starEach [] X.env) := by rfl) (hpl : (backTo pos (starEach [a] X.env)).any (·.1) = false := by rfl)
    (hall : (backToKw pos (keywordEach [⟨some "key", .Name x kp1, kp2⟩] X.env)).all (·.1.isSome) = true := by rfl) (hnone : (backToKw pos (keywordEach [⟨some "key", .Name x kp1, kp2⟩] X.env)).any (·.1.isNone) = false := by rfl) (hks : (backToKw pos (keywordEach [⟨some "key", .Name x kp1, kp2⟩] X.env)).filterMap (·.1) = [Str.ofString "key"] := by rfl)
    (hst : starEach [a] X.env = (false, eval a X.env) :: starEach [] X.env := by rfl) : PE X (.Call (.Name "sorted" p) [a] [⟨some "key", .Name x kp1, kp2⟩] pos) (ofE X.K cm (un (sortKD cs f1 f2) fa)) :=
  PE.imp (pe_callBK (cr_srtK (cm := cm) (cs := cs) hr F S hp hdb hbody hb hc) hg hm (by decide +kernel) (pa_cons ha pa_nil hst) (pk_cons (pe_glob (v := .ref fn) hgf hmf rfl hdx) pk_nil) (by decide) (by decide) he hpl hall hnone hks) fun σ H Q ⟨F0, ρ, As, d, rel, hf, k⟩ => by
    obtain ⟨x', e1, hf'⟩ := bind_some hf
    clear hf
    refine ⟨F0, ρ, As, x', rel, e1, fun v F1 H1 x1 r1 => ?_⟩
    unfold sortKD at hf'
    split at hf'
    · obtain ⟨ks, e2, hf2⟩ := bind_some hf'
      obtain ⟨c, rfl⟩ := ite_some hf2
      obtain ⟨l, ws, rfl, g, q1⟩ := r1.lst_inv
      exact ⟨F1, l, ws, _, ks, rfl, rfl, x1.fh, .inl g, q1, e2, c, fun ws' p hp r' => new_lst x1.fh r' (fun v F2 H2 x2 r2 => k v F2 H2 (x1.trans x2) r2) p hp⟩
    · cases hf'
/-! ### {} -/
theorem o_dnew : PE X (.Dict [] [] pos) (ofO X.K cm fun _ => some (.od [] [])) := PE.imp pe_dnewK fun σ H Q ⟨F, ρ, As, sv, rel, hf, k⟩ => by
  cases hf
  exact fun q hq => k _ F _ [q] (Ext.open rel.fh hq) (.od (rel.fh.free hq) upd_same rfl .nil) (by simp) (by simpa using hq)
theorem e_dnew : PE X (.Dict [] [] pos) (ofE X.K cm (kD (.dct [] []))) := PE.imp pe_dnewK fun σ H Q ⟨F, ρ, As, sv, rel, hf, k⟩ => by
  cases hf
  exact fun q hq => k _ _ _ (Ext.laid rel.fh hq) (.dct (.inl upd_same) rfl .nil)
/-! ### dict(d) -/
def dictD : List Dat → Option Dat
  | [.dct ks xs] => some (.dct ks xs)
  | _ => none
def dictO : List Dat → Option SV
  | [.dct ks xs] => some (.od ks (xs.map SV.fro))
  | _ => none
theorem cd_dict : ClD X cm (fun xs H Q => ∃ (a : Addr) (kvs : List (Key × V)), xs = [.ref a] ∧ Rd H a (.dK kvs) ∧ ∀ p, H p = none → Q (.ref p) (upd H p (.dK kvs))) dictD := fun F H vs ds d Q e rs hg k => by
  unfold dictD at hg
  split at hg
  · cases hg
    obtain ⟨v, rfl, r⟩ := rs.one
    obtain ⟨a, kvs, rfl, g, ek, z⟩ := r.dct_inv
    exact ⟨a, kvs, rfl, same_rd e g, fun q hq => k _ _ _ (Ext.laid e hq) (.dct (.inl upd_same) ek (z.mono (same_new (e.free hq))))⟩
  · cases hg
theorem co_dict : ClO X cm (fun xs H Q => ∃ (a : Addr) (kvs : List (Key × V)), xs = [.ref a] ∧ Rd H a (.dK kvs) ∧ ∀ p, H p = none → Q (.ref p) (upd H p (.dK kvs))) dictO := fun F H vs ds d Q e rs hg k => by
  unfold dictO at hg
  split at hg
  · cases hg
    obtain ⟨v, rfl, r⟩ := rs.one
    obtain ⟨a, kvs, rfl, g, ek, z⟩ := r.dct_inv
    exact ⟨a, kvs, rfl, same_rd e g, fun q hq => k _ F _ [q] (Ext.open e hq) (.od (e.free hq) upd_same ek (ros_fro z)) (by simp) (by simpa using hq)⟩
  · cases hg
theorem e_dict (hg : Gl X "dict") (hm : X.mg "dict" = none) (ha : PA X (e :: es) (ofA X.K cm fs)) (he : starEach (e :: es) X.env = (false, eval e X.env) :: starEach es X.env := by rfl) (hpl : (backTo pos (starEach es X.env)).any (·.1) = false := by rfl) :
    PE X (.Call (.Name "dict" p) (e :: es) [] pos) (ofE X.K cm (app dictD fs)) := e_callT call_dictD cd_dict hg hm (by decide +kernel) ha (by decide) (by decide) he hpl
theorem o_dict (hg : Gl X "dict") (hm : X.mg "dict" = none) (ha : PA X (e :: es) (ofA X.K cm fs)) (he : starEach (e :: es) X.env = (false, eval e X.env) :: starEach es X.env := by rfl) (hpl : (backTo pos (starEach es X.env)).any (·.1) = false := by rfl) :
    PE X (.Call (.Name "dict" p) (e :: es) [] pos) (ofO X.K cm (appO dictO fs)) := o_callT call_dictD co_dict hg hm (by decide +kernel) ha (by decide) (by decide) he hpl
/-! ### d.get(k), d.get(k, x) -/
def get1D : Dat → Dat → Option Dat
  | .dct ks xs, k => (isK k).bind fun j => some ((look ks xs j).getD .non)
  | _, _ => none
theorem look_get {K : PySem.W.Frag} {F : Hp} {k : Key} : ∀ {kvs : List (Key × V)} {xs : List Dat}, Rs K cm F (kvs.map (·.2)) xs → (look (kvs.map (·.1)) xs k = none ∧ valV kvs k = none) ∨ ∃ v x, valV kvs k = some v ∧ look (kvs.map (·.1)) xs k = some x ∧ R K cm F v x
  | [], _, _ => .inl ⟨by simp [look], rfl⟩
  | p :: kvs, [], r => by cases r
  | p :: kvs, x' :: xs, .cons r t => by
    rw [List.map_cons, look]
    by_cases hk : p.1 = k
    · rw [if_pos hk]
      exact .inr ⟨p.2, x', valV_pos hk, rfl, r⟩
    · rw [if_neg hk, valV_neg hk]
      exact look_get t
theorem e_get1 {apos : Pos} (hu : X.A.units + 1 < cLine) (ha : PE X a (ofE X.K cm fa)) (hb : PE X b (ofE X.K cm fb)) (m : M1 X a "get" apos b pos := by exact ⟨rfl, rfl, rfl, rfl⟩) : PE X (.Call (.Attribute a "get" apos) [b] [] pos) (ofE X.K cm (bin get1D fa fb)) := PE.imp (pe_dget1 hu ha hb m) fun σ H Q ⟨F, ρ, As, d, rel, hf, k⟩ => by
  obtain ⟨x, e1, hf1⟩ := bind_some hf
  obtain ⟨y, e2, hf2⟩ := bind_some hf1
  clear hf hf1
  refine ⟨F, ρ, As, x, rel, e1, fun v F1 H1 x1 r1 => ?_⟩
  unfold get1D at hf2
  split at hf2
  · obtain ⟨j, e3, hf3⟩ := bind_some hf2
    cases hf3
    obtain ⟨q, kvs, rfl, g, ek, z⟩ := r1.dct_inv
    have hd : IsD H1 q := .inl ⟨_, same_rd x1.fh g⟩
    refine ⟨q, rfl, hd, F1, ρ, As, _, rel.ext x1, e2, fun w F2 H2 x2 r2 => ?_⟩
    have ew := isK_V r2 e3
    subst ew
    subst ek
    refine ⟨valV kvs j, .inl ⟨kvs, j, same_rd (x2.f.trans x2.fh) g, rfl, rfl⟩, ?_⟩
    rcases look_get (k := j) z with ⟨l1, l2⟩ | ⟨w, x', l1, l2, l3⟩
    · rw [l2]
      rw [l1] at k
      exact k .non F2 H2 (x1.trans x2) .non
    · rw [l1]
      rw [l2] at k
      exact k w F2 H2 (x1.trans x2) (l3.mono x2.f)
  · cases hf2
/-! ### any, all of a list of truth values -/
def bls : List Dat → Option (List Bool)
  | [] => some []
  | .bl k :: xs => (bls xs).bind fun ks => some (k :: ks)
  | _ :: _ => none
theorem rs_bls {K : PySem.W.Frag} {F : Hp} : ∀ {vs : List V} {xs : List Dat} {ys : List Bool}, Rs K cm F vs xs → bls xs = some ys → vs = ys.map V.bl
  | _, _, _, .nil, h => by cases h; rfl
  | _, _, _, .cons r t, h => by
    unfold bls at h
    split at h
    · rename_i h'; cases h'
    · rename_i h'
      cases h'
      obtain ⟨ys', e, h⟩ := bind_some h
      cases h
      rw [r.bl_inv, rs_bls t e]
      rfl
    · cases h
def anyD : List Dat → Option Dat
  | [.lst xs] => (bls xs).bind fun ks => some (.bl (ks.any id))
  | _ => none
def allD : List Dat → Option Dat
  | [.lst xs] => (bls xs).bind fun ks => some (.bl (ks.all id))
  | _ => none
theorem cd_any : ClD X cm (rAny X.K) anyD := fun F H vs ds d Q e rs hg k => by
  unfold anyD at hg
  split at hg
  · obtain ⟨ks, e1, hg'⟩ := bind_some hg
    cases hg'
    obtain ⟨v, rfl, r⟩ := rs.one
    obtain ⟨a, ws, rfl, h, q⟩ := r.lst_inv
    have := rs_bls q e1
    subst this
    exact ⟨a, ks, rfl, .inl (same_rd e h), k _ F H (Ext.refl e) (.bl _)⟩
  · cases hg
theorem cd_all : ClD X cm (rAll X.K) allD := fun F H vs ds d Q e rs hg k => by
  unfold allD at hg
  split at hg
  · obtain ⟨ks, e1, hg'⟩ := bind_some hg
    cases hg'
    obtain ⟨v, rfl, r⟩ := rs.one
    obtain ⟨a, ws, rfl, h, q⟩ := r.lst_inv
    have := rs_bls q e1
    subst this
    exact ⟨a, ks, rfl, .inl (same_rd e h), k _ F H (Ext.refl e) (.bl _)⟩
  · cases hg
theorem e_any (hc : X.calm = true) (hg : Gl X "any") (hm : X.mg "any" = none) (ha : PA X (e :: es) (ofA X.K cm fs)) (he : starEach (e :: es) X.env = (false, eval e X.env) :: starEach es X.env := by rfl) (hpl : (backTo pos (starEach es X.env)).any (·.1) = false := by rfl) :
    PE X (.Call (.Name "any" p) (e :: es) [] pos) (ofE X.K cm (app anyD fs)) := e_callB (cr_any hc) cd_any hg hm (by decide +kernel) ha (by decide) (by decide) he hpl
theorem e_all (hc : X.calm = true) (hg : Gl X "all") (hm : X.mg "all" = none) (ha : PA X (e :: es) (ofA X.K cm fs)) (he : starEach (e :: es) X.env = (false, eval e X.env) :: starEach es X.env := by rfl) (hpl : (backTo pos (starEach es X.env)).any (·.1) = false := by rfl) :
    PE X (.Call (.Name "all" p) (e :: es) [] pos) (ofE X.K cm (app allD fs)) := e_callB (cr_all hc) cd_all hg hm (by decide +kernel) ha (by decide) (by decide) he hpl
/-! ### place[k] = e, a dict of one's own -/
def putV : List Key → List SV → Key → SV → List SV
  | k' :: ks, y :: xs, k, x => if k' = k then x :: putV ks xs k x else y :: putV ks xs k x
  | _, _, _, _ => []
def froAt : List Key → List SV → Key → Bool
  | k' :: ks, y :: xs, k => (if k' = k then isFro y else true) && froAt ks xs k
  | _, _, _ => true
def putKD (ks : List Key) (xs : List SV) (k : Key) (x : SV) : List Key × List SV := if (ks.any fun j => decide (j = k)) = true then (ks, putV ks xs k x) else (ks ++ [k], xs ++ [x])
theorem put_in {K : PySem.W.Frag} {F H : Hp} {w : V} {d : Dat} {k : Key} (r : R K cm F w d) : ∀ {kvs : List (Key × V)} {xs : List SV} {A : List Addr}, ROs K cm F H (kvs.map (·.2)) xs A → froAt (kvs.map (·.1)) xs k = true → ROs K cm F H ((kvs.map fun kv => if kv.1 = k then (kv.1, w) else kv).map (·.2)) (putV (kvs.map (·.1)) xs k (.fro d)) A
  | [], _, _, .nil, _ => .nil
  | (k', v') :: kvs, _, _, .cons (x := x) q t, h => by
    rw [List.map_cons, froAt, Bool.and_eq_true] at h
    have ih := put_in r t h.2
    rw [List.map_cons, List.map_cons, List.map_cons, putV]
    dsimp only at h q ⊢
    by_cases hk : k' = k
    · rw [if_pos hk, if_pos hk]
      have hx := h.1
      rw [if_pos hk] at hx
      cases q with
      | fro _ => exact .cons (A := []) (.fro r) ih
      | _ => cases hx
    · rw [if_neg hk, if_neg hk]
      exact .cons q ih
theorem put_keys (k : Key) (w : V) : ∀ kvs : List (Key × V), (kvs.map fun kv => if kv.1 = k then (kv.1, w) else kv).map (·.1) = kvs.map (·.1)
  | [] => rfl
  | p :: kvs => by
    rw [List.map_cons, List.map_cons, List.map_cons, put_keys k w kvs]
    by_cases hk : p.1 = k
    · rw [if_pos hk]
    · rw [if_neg hk]
def setDl (i : Nat) (p : List Stp) (fk f : Rho → Option Dat) : Rho → Res := fun ρ => match f ρ with
  | some d => match fk ρ with
    | some kd => match isK kd with
      | some k => match ρ[i]? with
        | some (some sv) => match getP sv p with
          | some (.od ks xs) => @ite _ (ks.length < sizeLine ∧ froAt ks xs k = true) (Classical.propDecidable _) (match putP sv p (.od (putKD ks xs k (.fro d)).1 (putKD ks xs k (.fro d)).2) with
            | some sv' => .nx (ρ.set i (some sv'))
            | none => .bad) .bad
          | _ => .bad
        | _ => .bad
      | none => .bad
    | none => .bad
  | none => .bad
theorem RO.od_inv {K : PySem.W.Frag} {F H : Hp} {v : V} {ks : List Key} {xs : List SV} {A : List Addr} (h : RO K cm F H v (.od ks xs) A) : ∃ a kvs B, v = .ref a ∧ A = a :: B ∧ F a = none ∧ H a = some (.dK kvs) ∧ kvs.map (·.1) = ks ∧ ROs K cm F H (kvs.map (·.2)) xs B := by
  cases h with
  | od n h k r => exact ⟨_, _, _, rfl, rfl, n, h, k, r⟩
theorem p_setDl (i : Nat) (pt : List Stp) {pos' : Pos} {fk : Rho → Option Dat} (hu : X.A.units + 1 < cLine) (hp : PE X e (tPl X.K cm i pt)) (hk : PE X b (ofE X.K cm fk)) (ha : PE X a (ofE X.K cm f)) (hs : swapsWith a (some (.Subscript e b pos')) pos.line X.env = pure false := by rfl) :
    PS X (.Assign [.Subscript e b pos'] a pos) (ofS X.K cm W (setDl i pt fk f)) := PS.imp (ps_dput hu hp hk ha hs) fun D σ H ⟨F0, H0, ρ, ⟨F, As, rel, x, n⟩, q⟩ => by
  unfold setDl at q
  split at q
  case h_2 => exact q.elim
  rename_i d e1
  split at q
  case h_2 => exact q.elim
  rename_i kd e0
  split at q
  case h_2 => exact q.elim
  rename_i k ek
  split at q
  case h_2 => exact q.elim
  rename_i sv e2
  split at q
  case h_2 => exact q.elim
  rename_i ks xs e3
  split at q
  case isFalse => exact q.elim
  rename_i hz
  obtain ⟨v0, h1, r1⟩ := rel.at_ i _ e2
  refine ⟨F, ρ, As, d, rel, e1, fun w F1 H1 x1 r2 => ?_⟩
  refine ⟨F1, ρ, As, sv, v0, _, rel.ext x1, e2, h1, e3, fun v B l => ?_⟩
  refine ⟨F1, ρ, As, kd, rel.ext x1, e0, fun u F2 H2 x2 r3 => ?_⟩
  have eu := isK_V r3 ek
  subst eu
  obtain ⟨c, kvs, C, rfl, eB, nF, hH, hks, rs⟩ := l.ro.od_inv
  have hH2 := x2.h _ _ hH
  refine ⟨c, _, rfl, DPut.k hH2 (by rw [← List.length_map (f := (·.1)), hks]; exact hz.1), ?_⟩
  have lB : c ∈ B := by rw [eB]; exact List.mem_cons_self
  have lA := l.sub c lB
  have hF2 := ext_none x2 hH nF
  have cC : c ∉ C := by
    have ndB := l.nd
    rw [eB] at ndB
    exact (List.nodup_cons.mp ndB).1
  subst hks
  obtain ⟨sv', ep, rp⟩ := l.put F2 H2 c (.dK (putK kvs k w)) (.od (putKD (kvs.map (·.1)) xs k (.fro d)).1 (putKD (kvs.map (·.1)) xs k (.fro d)).2) x2 lB (by
    rw [eB]
    have rs2 := (rs.ext x2).out (o := .dK (putK kvs k w)) cC
    have rw2 := r2.mono x2.f
    have hany2 : ((kvs.map (·.1)).any fun j => decide (j = k)) = kvs.any fun kv => decide (kv.1 = k) := by rw [List.any_map]; rfl
    by_cases hm : ((kvs.map (·.1)).any fun j => decide (j = k)) = true
    · have e4 : putKD (kvs.map (·.1)) xs k (.fro d) = (kvs.map (·.1), putV (kvs.map (·.1)) xs k (.fro d)) := if_pos hm
      have hany : (kvs.any fun kv => decide (kv.1 = k)) = true := by rw [← hany2]; exact hm
      have e5 : putK kvs k w = kvs.map fun kv => if kv.1 = k then (kv.1, w) else kv := if_pos hany
      rw [e4]
      refine .od hF2 upd_same (by rw [e5]; exact put_keys k w kvs) ?_
      rw [e5] at rs2 ⊢
      exact put_in rw2 rs2 hz.2
    · have e4 : putKD (kvs.map (·.1)) xs k (.fro d) = (kvs.map (·.1) ++ [k], xs ++ [.fro d]) := if_neg hm
      have hany : ¬ (kvs.any fun kv => decide (kv.1 = k)) = true := by rw [← hany2]; exact hm
      have e5 : putK kvs k w = kvs ++ [(k, w)] := if_neg hany
      rw [e4]
      refine .od hF2 upd_same (by rw [e5, List.map_append]; rfl) ?_
      rw [e5] at rs2 ⊢
      rw [List.map_append]
      exact ROs.snoc rw2 rs2)
  rw [ep] at q
  exact q _ _ ⟨F2, As, (rel.ext (x1.trans x2)).upd lA e2 h1 rp, ext_upd (x.trans (x1.trans x2)) hF2 (n i c lA), n⟩
end
/-! ### what is not carried, where nothing comes -/
def badS : Rho → Res := fun _ => .bad
theorem p_bad {X : Cx} {cm : Str → Addr} {W : L2.WX} {st : Stmt} : PS X st (ofS X.K cm W badS) := ⟨fun pins s σ H D I h => by
  obtain ⟨_, _, _, _, h⟩ := h
  exact h.elim⟩
end
end Pq

namespace Pq
open PySem PySem.Spec PyProof.Rows L2
noncomputable section
/-! ### d == d', d != d' of dicts with plain values -/
def hitsD (ks' : List Key) (ys : List Dat) : List Key → List Dat → Bool
  | k :: ks, x :: xs => match look ks' ys k with
    | none => false
    | some y => PyData.eqv (py x) (py y) && hitsD ks' ys ks xs
  | _, _ => true
def dctEq (ks : List Key) (xs : List Dat) (ks' : List Key) (ys : List Dat) : Bool := ks.length == ks'.length && hitsD ks' ys ks xs
mutual
theorem py_plain : ∀ d : Dat, pl d = true → (py d).plain = true
  | .non, _ => by rw [py]; rfl
  | .bl _, _ => by rw [py]; rfl
  | .int _, _ => by rw [py]; rfl
  | .str _, _ => by rw [py]; rfl
  | .lst xs, h => by
    rw [pl] at h
    rw [py]
    show PyData.plainAll (pys xs) = true
    exact pys_plain xs h
  | .tup xs, h => by
    rw [pl] at h
    rw [py]
    show PyData.plainAll (pys xs) = true
    exact pys_plain xs h
  | .dct _ _, h => by rw [pl] at h; cases h
  | .obj _ _ _, h => by rw [pl] at h; cases h
  | .scr _, h => by rw [pl] at h; cases h
theorem pys_plain : ∀ xs : List Dat, pls xs = true → PyData.plainAll (pys xs) = true
  | [], _ => by rw [pys]; rfl
  | x :: xs, h => by
    rw [pls, Bool.and_eq_true] at h
    rw [pys]
    show (PyData.plain (py x) && PyData.plainAll (pys xs)) = true
    rw [py_plain x h.1, pys_plain xs h.2]
    rfl
end
section
variable {X : Cx} {cm : Str → Addr} {pins : List (Addr × Obj)} {σ : L2.St} {F H : Hp} {s : Shared} {A : Around}
theorem kv_at {k : Key} : ∀ {kvs : List (Key × V)} {us : List (Key × Value)}, KV kvs us → (valV kvs k = none ∧ PySem.valueAt us k = none) ∨ ∃ v u, valV kvs k = some v ∧ PySem.valueAt us k = some u ∧ RelV v u
  | [], [], .nil => .inl ⟨rfl, rfl⟩
  | (k1, v) :: kvs, (k2, u) :: us, .cons h t => by
    obtain ⟨e, r⟩ := h
    dsimp only at e r
    subst e
    by_cases hk : k1 = k
    · refine .inr ⟨v, u, valV_pos hk, ?_, r⟩
      simp [PySem.valueAt, hk]
    · rw [valV_neg (p := (k1, v)) hk]
      have : PySem.valueAt ((k1, u) :: us) k = PySem.valueAt us k := by simp [PySem.valueAt, hk]
      rw [this]
      exact kv_at t
theorem hits_of (I : Inv X pins σ H s) (e : Same F H) (hu : A.units + 64 < cLine) {ks' : List Key} {ys : List Dat} {kvs' : List (Key × V)} {us' : List (Key × Value)} (ek' : kvs'.map (·.1) = ks') (r' : Rs X.K cm F (kvs'.map (·.2)) ys) (q' : KV kvs' us') (p' : ∀ y ∈ ys, pl y = true) :
    ∀ {kvs : List (Key × V)} {xs : List Dat} {us : List (Key × Value)}, Rs X.K cm F (kvs.map (·.2)) xs → KV kvs us → (∀ x ∈ xs, pl x = true ∧ (py x).depth ≤ 50) → PySem.W.KeqHits A s us' us (hitsD ks' ys (kvs.map (·.1)) xs)
  | [], [], [], .nil, .nil, _ => .nil
  | (k, v) :: kvs, x :: xs, (k2, u) :: us, .cons r rs, .cons h t, hp => by
    obtain ⟨ek, ru⟩ := h
    dsimp only at ek ru
    subst ek
    have ih := hits_of I e hu ek' r' q' p' rs t fun y hy => hp y (List.mem_cons_of_mem _ hy)
    rw [List.map_cons, hitsD]
    rcases look_get (k := k) r' with ⟨l1, l2⟩ | ⟨w, y, l1, l2, l3⟩
    · rw [ek'] at l1
      rw [l1]
      rcases kv_at (k := k) q' with ⟨m1, m2⟩ | ⟨v', u', m1, m2, m3⟩
      · exact .miss m2
      · rw [l2] at m1; cases m1
    · rw [ek'] at l2
      rw [l2]
      rcases kv_at (k := k) q' with ⟨m1, m2⟩ | ⟨v', u', m1, m2, m3⟩
      · rw [l1] at m1; cases m1
      · rw [l1] at m1
        cases m1
        have hy : y ∈ ys := by
          clear l1 l3 m2 m3 ih rs r' q' ek'
          induction ks' generalizing ys with
          | nil => simp [look] at l2
          | cons k0 ks0 ihk =>
            cases ys with
            | nil => simp [look] at l2
            | cons y0 ys0 =>
              rw [look] at l2
              split at l2
              · cases l2; exact List.mem_cons_self
              · exact List.mem_cons_of_mem _ (ihk (fun z hz => p' z (List.mem_cons_of_mem _ hz)) l2)
        obtain ⟨as, z1⟩ := R.reads I e r (hp x List.mem_cons_self).1 ru
        obtain ⟨bs, z2⟩ := R.reads I e l3 (p' y hy) m3
        refine .hit m2 (PySem.SeqAt.eqAt_plain (py x) (py y) A s u u' as bs z1 z2 (py_plain x (hp x List.mem_cons_self).1) (py_plain y (p' y hy)) ?_) ih
        have := (hp x List.mem_cons_self).2
        omega
def okDct (xs ys : List Dat) : Prop := (∀ x ∈ xs, pl x = true ∧ (py x).depth ≤ 50) ∧ ∀ y ∈ ys, pl y = true
def rDct (K : PySem.W.Frag) (cm : Str → Addr) (neg : Bool) : R2 := fun x y H Q => ∃ F ks xs ks' ys, Same F H ∧ R K cm F x (.dct ks xs) ∧ R K cm F y (.dct ks' ys) ∧ okDct xs ys ∧ Q (.bl (if neg then !dctEq ks xs ks' ys else dctEq ks xs ks' ys)) H
theorem op_eqDct (hu : X.A.units + 70 < cLine) : OpR X (compareOp .Eq) (rDct X.K cm false) := by
  intro pins s σ H x y v u Q I rx ry ⟨F, ks, xs, ks', ys, e, r1, r2, ⟨p1, p2⟩, q⟩
  obtain ⟨a, kvs, rfl, g, ek, z⟩ := r1.dct_inv
  obtain ⟨b, kvs', rfl, g', ek', z'⟩ := r2.dct_inv
  cases rx
  cases ry
  obtain ⟨_, n1, us, q1, d1⟩ := dk_rd I.hok (same_rd e g)
  obtain ⟨_, n2, us', q2, d2⟩ := dk_rd I.hok (same_rd e g')
  subst ek ek'
  have hits := hits_of (A := X.A.in1) I e (by show X.A.units + 1 + 64 < cLine; omega) rfl z' q2 p2 z q1 p1
  refine PySem.W.keq_eq n1 n2 d1 d2 (by omega) (fun _ => hits) ?_
  rw [← Paired.length q1, ← Paired.length q2]
  have : (kvs.length == kvs'.length) = ((kvs.map (·.1)).length == (kvs'.map (·.1)).length) := by rw [List.length_map, List.length_map]
  rw [this]
  exact ⟨.bl _, H, I, rfl, q⟩
theorem op_neDct (hu : X.A.units + 70 < cLine) : OpR X (compareOp .NotEq) (rDct X.K cm true) := by
  intro pins s σ H x y v u Q I rx ry ⟨F, ks, xs, ks', ys, e, r1, r2, ⟨p1, p2⟩, q⟩
  obtain ⟨a, kvs, rfl, g, ek, z⟩ := r1.dct_inv
  obtain ⟨b, kvs', rfl, g', ek', z'⟩ := r2.dct_inv
  cases rx
  cases ry
  obtain ⟨_, n1, us, q1, d1⟩ := dk_rd I.hok (same_rd e g)
  obtain ⟨_, n2, us', q2, d2⟩ := dk_rd I.hok (same_rd e g')
  subst ek ek'
  have hits := hits_of (A := X.A.in1) I e (by show X.A.units + 1 + 64 < cLine; omega) rfl z' q2 p2 z q1 p1
  refine PySem.W.keq_ne n1 n2 d1 d2 (by omega) (fun _ => hits) ?_
  rw [← Paired.length q1, ← Paired.length q2]
  have : (kvs.length == kvs'.length) = ((kvs.map (·.1)).length == (kvs'.map (·.1)).length) := by rw [List.length_map, List.length_map]
  rw [this]
  exact ⟨.bl _, H, I, rfl, q⟩
end
section
variable {X : Cx} {cm : Str → Addr} {W : L2.WX} {a b e : Expr} {es : List Expr} {fa fb f : Rho → Option Dat} {fs : Rho → Option (List Dat)} {pos p : Pos}
def eqX (d d' : Dat) : Option Dat := match d, d' with
  | .dct ks xs, .dct ks' ys => @ite _ (okDct xs ys) (Classical.propDecidable _) (some (.bl (dctEq ks xs ks' ys))) none
  | d, d' => eqD d d'
def neX (d d' : Dat) : Option Dat := match d, d' with
  | .dct ks xs, .dct ks' ys => @ite _ (okDct xs ys) (Classical.propDecidable _) (some (.bl (!dctEq ks xs ks' ys))) none
  | d, d' => neD d d'
theorem op_eqX (hu : X.A.units + 70 < cLine) : OpR X (compareOp .Eq) (fun x y H Q => rDct X.K cm false x y H Q ∨ rDat X.K cm okEq eqb x y H Q) := (op_eqDct hu).or (op_deq (by omega))
theorem op_neX (hu : X.A.units + 70 < cLine) : OpR X (compareOp .NotEq) (fun x y H Q => rDct X.K cm true x y H Q ∨ rDat X.K cm okEq (fun d d' => !eqb d d') x y H Q) := (op_neDct hu).or (op_dne (by omega))
theorem od_eqX : OpD X cm (fun x y H Q => rDct X.K cm false x y H Q ∨ rDat X.K cm okEq eqb x y H Q) eqX := fun F H x y a b d Q e r1 r2 hg k => by
  unfold eqX at hg
  split at hg
  · obtain ⟨c, rfl⟩ := ite_some hg
    exact .inl ⟨F, _, _, _, _, e, r1, r2, c, k _ F H (Ext.refl e) (.bl _)⟩
  · exact .inr (od_eq F H x y _ _ d Q e r1 r2 hg k)
theorem od_neX : OpD X cm (fun x y H Q => rDct X.K cm true x y H Q ∨ rDat X.K cm okEq (fun d d' => !eqb d d') x y H Q) neX := fun F H x y a b d Q e r1 r2 hg k => by
  unfold neX at hg
  split at hg
  · obtain ⟨c, rfl⟩ := ite_some hg
    exact .inl ⟨F, _, _, _, _, e, r1, r2, c, k _ F H (Ext.refl e) (.bl _)⟩
  · exact .inr (od_ne F H x y _ _ d Q e r1 r2 hg k)
theorem e_eqX (hu : X.A.units + 70 < cLine) (ha : PE X a (ofE X.K cm fa)) (hb : PE X b (ofE X.K cm fb)) : PE X (.Compare a [.Eq] [b] pos) (ofE X.K cm (bin eqX fa fb)) := e_cmp (op_eqX hu) od_eqX ha hb (nomark _)
theorem e_neX (hu : X.A.units + 70 < cLine) (ha : PE X a (ofE X.K cm fa)) (hb : PE X b (ofE X.K cm fb)) : PE X (.Compare a [.NotEq] [b] pos) (ofE X.K cm (bin neX fa fb)) := e_cmp (op_neX hu) od_neX ha hb (nomark _)
theorem t_eqX (hu : X.A.units + 70 < cLine) (ha : PE X a (ofE X.K cm fa)) (hb : PE X b (ofE X.K cm fb)) : PT X (.Compare a [.Eq] [b] pos) (ofT X.K cm (tst (bin eqX fa fb))) := t_cmp (op_eqX hu) od_eqX ha hb (nomark _)
theorem t_neX (hu : X.A.units + 70 < cLine) (ha : PE X a (ofE X.K cm fa)) (hb : PE X b (ofE X.K cm fb)) : PT X (.Compare a [.NotEq] [b] pos) (ofT X.K cm (tst (bin neX fa fb))) := t_cmp (op_neX hu) od_neX ha hb (nomark _)
/-! ### sorted(d), keys texts -/
def strLe (a b : Str) : Bool := !ltCps b.cps.toList a.cps.toList
def keysT : List Key → Option (List Str)
  | [] => some []
  | .inr x :: ks => (keysT ks).bind fun ys => some (x :: ys)
  | .inl _ :: _ => none
theorem keysT_is : ∀ {ks : List Key} {ys : List Str}, keysT ks = some ys → ks = ys.map Sum.inr
  | [], _, h => by cases h; rfl
  | .inr x :: ks, _, h => by
    rw [keysT] at h
    obtain ⟨ys, e, h⟩ := bind_some h
    cases h
    rw [keysT_is e]
    rfl
  | .inl _ :: _, _, h => by cases h
theorem strLe_is (a b : Str) : strLe a b = true ↔ a.cps.toList ≤ b.cps.toList := by
  unfold strLe
  rw [ltCps_eq, Bool.not_eq_true', decide_eq_false_iff_not, List.not_lt]
theorem strLe_tr {a b c : Str} (h : strLe a b = true) (h' : strLe b c = true) : strLe a c = true := by
  rw [strLe_is] at h h' ⊢
  exact List.le_trans h h'
theorem strLe_tot (a b : Str) : (strLe a b || strLe b a) = true := by
  rw [Bool.or_eq_true, strLe_is, strLe_is]
  exact List.le_total _ _
theorem strLe_anti {a b : Str} (h : strLe a b = true) (h' : strLe b a = true) : a = b := by
  rw [strLe_is] at h h'
  have := List.le_antisymm h h'
  cases a with
  | mk x => cases b with
    | mk y => exact congrArg Str.mk (Array.toList_inj.mp this)
theorem rising_pw : ∀ {xs : List Str} {x : Str}, risingS x xs = true → (x :: xs).Pairwise fun a b => strLe a b = true
  | [], x, _ => by simp
  | y :: xs, x, h => by
    rw [risingS, Bool.and_eq_true] at h
    have ih := rising_pw h.2
    refine List.pairwise_cons.mpr ⟨fun z hz => ?_, ih⟩
    have hxy : strLe x y = true := h.1
    rcases List.mem_cons.mp hz with rfl | hz
    · exact hxy
    · have hyz : strLe y z = true := (List.pairwise_cons.mp ih).1 z hz
      exact strLe_tr hxy hyz
def sortDct : List Dat → Option Dat
  | [.dct ks _] => (keysT ks).bind fun ys => @ite _ (ys.length < 64) (Classical.propDecidable _) (some (.lst ((ys.mergeSort strLe).map Dat.str))) none
  | d => sortD d
theorem sorted_is {ys ks : List Str} (p : ys.Perm ks) (h : sortedS ys = true) : ys = ks.mergeSort strLe := by
  have pw : ys.Pairwise fun a b => strLe a b = true := by
    cases ys with
    | nil => exact .nil
    | cons y ys => exact rising_pw h
  exact List.Perm.eq_of_pairwise (fun a b _ _ => strLe_anti) pw (List.pairwise_mergeSort (le := strLe) (fun a b c => strLe_tr) strLe_tot ks) (p.trans (List.mergeSort_perm ks strLe).symm)
theorem rs_strs {K : PySem.W.Frag} {F : Hp} : ∀ ys : List Str, Rs K cm F (ys.map V.str) (ys.map Dat.str)
  | [] => .nil
  | y :: ys => .cons (.str y) (rs_strs ys)
def rSrtD (K : PySem.W.Frag) (cm : Str → Addr) : List V → Hp → VK → Prop := fun xs H Q => (∃ (a : Addr) (kvs : List (Key × V)) (ks : List Str), xs = [.ref a] ∧ Rd H a (.dK kvs) ∧ kvs.map (·.1) = ks.map Sum.inr ∧ ks.length < 64 ∧ ∀ ys p, ys.Perm ks → sortedS ys = true → H p = none → Q (.ref p) (upd H p (.lst (ys.map V.str)))) ∨ rSrt K cm xs H Q
theorem call_srtD (hc : X.calm = true) (hu : X.A.units + 64 < cLine) : CallR X (.builtin "sorted") (rSrtD X.K cm) := by
  intro pins s σ H vs us Q I r h
  rcases h with h | h
  · exact call_sortedD hc pins s σ H vs us Q I r h
  · exact cr_srt hu pins s σ H vs us Q I r h
theorem cd_srtD : ClD X cm (rSrtD X.K cm) sortDct := fun F H vs ds d Q e rs hg k => by
  unfold sortDct at hg
  split at hg
  · obtain ⟨ys, e1, hg'⟩ := bind_some hg
    obtain ⟨c, rfl⟩ := ite_some hg'
    obtain ⟨v, rfl, r⟩ := rs.one
    obtain ⟨a, kvs, rfl, g, ek, z⟩ := r.dct_inv
    have := keysT_is e1
    refine .inl ⟨a, kvs, ys, rfl, same_rd e g, by rw [ek, this], c, fun zs q pm hs hq => ?_⟩
    rw [sorted_is pm hs]
    exact new_lst e (rs_strs _) k q hq
  · exact .inr (cd_sort F H vs _ d Q e rs hg k)
theorem e_sorted' (hc : X.calm = true) (hu : X.A.units + 64 < cLine) (hg : Gl X "sorted") (hm : X.mg "sorted" = none) (ha : PA X (e :: es) (ofA X.K cm fs)) (he : starEach (e :: es) X.env = (false, eval e X.env) :: starEach es X.env := by rfl) (hpl : (backTo pos (starEach es X.env)).any (·.1) = false := by rfl) :
    PE X (.Call (.Name "sorted" p) (e :: es) [] pos) (ofE X.K cm (app sortDct fs)) := e_callB (call_srtD hc hu) cd_srtD hg hm (by decide +kernel) ha (by decide) (by decide) he hpl
/-! ### a is b, of truth values -/
def isD2 : Dat → Dat → Option Dat
  | .bl i, .bl j => some (.bl (decide (i = j)))
  | _, _ => none
def isntD2 : Dat → Dat → Option Dat
  | .bl i, .bl j => some (.bl (!decide (i = j)))
  | _, _ => none
theorem od_is : OpD X cm (fun x y H Q => ∃ a b, x = .bl a ∧ y = .bl b ∧ Q (.bl (decide (a = b))) H) isD2 := fun F H x y a b d Q e r1 r2 hg k => by
  unfold isD2 at hg
  split at hg
  · cases hg
    exact ⟨_, _, r1.bl_inv, r2.bl_inv, k _ F H (Ext.refl e) (.bl _)⟩
  · cases hg
theorem od_isnt : OpD X cm (fun x y H Q => ∃ a b, x = .bl a ∧ y = .bl b ∧ Q (.bl (!decide (a = b))) H) isntD2 := fun F H x y a b d Q e r1 r2 hg k => by
  unfold isntD2 at hg
  split at hg
  · cases hg
    exact ⟨_, _, r1.bl_inv, r2.bl_inv, k _ F H (Ext.refl e) (.bl _)⟩
  · cases hg
theorem e_is (ha : PE X a (ofE X.K cm fa)) (hb : PE X b (ofE X.K cm fb)) : PE X (.Compare a [.Is] [b] pos) (ofE X.K cm (bin isD2 fa fb)) := e_cmp op_is_bl od_is ha hb (nomark _)
theorem e_isnt (ha : PE X a (ofE X.K cm fa)) (hb : PE X b (ofE X.K cm fb)) : PE X (.Compare a [.IsNot] [b] pos) (ofE X.K cm (bin isntD2 fa fb)) := e_cmp op_isnot_bl od_isnt ha hb (nomark _)
theorem t_is (ha : PE X a (ofE X.K cm fa)) (hb : PE X b (ofE X.K cm fb)) : PT X (.Compare a [.Is] [b] pos) (ofT X.K cm (tst (bin isD2 fa fb))) := t_cmp op_is_bl od_is ha hb (nomark _)
theorem t_isnt (ha : PE X a (ofE X.K cm fa)) (hb : PE X b (ofE X.K cm fb)) : PT X (.Compare a [.IsNot] [b] pos) (ofT X.K cm (tst (bin isntD2 fa fb))) := t_cmp op_isnot_bl od_isnt ha hb (nomark _)
end
end
end Pq

namespace Pq
open PySem PySem.Spec PyProof.Rows L2
noncomputable section
/-! ### a text so many times -/
def repP (x : Str) (n : Int) : Prop := x.length ≤ 1000 ∧ -1000 ≤ n ∧ n ≤ 1000
theorem rep_ok {x : Str} {n : Int} (h : repP x n) : MulOk x n := by
  obtain ⟨h1, h2, h3⟩ := h
  refine ⟨?_, fun h4 h5 => ?_, fun h4 h5 => ?_⟩
  · have e1 : ¬ n < -(2 ^ 63 : Int) := by omega
    have e2 : ¬ n ≥ 2 ^ 63 := by omega
    simp [e1, e2]
    omega
  · have : (x.length : Int) ≤ (2 ^ 63 - 1) / n := by
      refine Int.le_ediv_of_mul_le (by omega) ?_
      have q1 : (x.length : Int) * n ≤ 1000 * n := Int.mul_le_mul_of_nonneg_right (by omega) (by omega)
      omega
    omega
  · unfold Builtin.Str.tooLong
    have q : x.length * n.toNat ≤ 1000 * 1000 := Nat.mul_le_mul h1 (by omega)
    rw [decide_eq_false_iff_not, sizeLine_eq]
    omega
def mulX (d d' : Dat) : Option Dat := match d, d' with
  | .str x, .int n => @ite _ (repP x n) (Classical.propDecidable _) (some (.str (Txt.mul x n))) none
  | d, d' => mulD d d'
section
variable {X : Cx} {cm : Str → Addr} {a b : Expr} {fa fb : Rho → Option Dat} {pos : Pos}
def rRepS : R2 := fun x y H Q => ∃ z n, x = .str z ∧ y = .int n ∧ repP z n ∧ Q (.str (Txt.mul z n)) H
theorem op_repS : OpR X (binaryOp .Mult) rRepS := by
  intro pins s σ H x y v u Q I rx ry ⟨z, n, ex, ey, h, q⟩
  subst ex ey
  obtain ⟨t, rfl⟩ := rx
  obtain ⟨t', rfl⟩ := ry
  exact SB.mul (rep_ok h) fun t' k => ⟨.str _, H, I.tok _, ⟨_, rfl⟩, q⟩
theorem op_mulX : OpR X (binaryOp .Mult) (fun x y H Q => rRepS x y H Q ∨ rI CMul (fun i j => .int (i * j)) x y H Q) := op_repS.or op_mul
theorem od_mulX : OpD X cm (fun x y H Q => rRepS x y H Q ∨ rI CMul (fun i j => .int (i * j)) x y H Q) mulX := fun F H x y a b d Q e r1 r2 hg k => by
  unfold mulX at hg
  split at hg
  · obtain ⟨c, rfl⟩ := ite_some hg
    exact .inl ⟨_, _, r1.str_inv, r2.int_inv, c, k _ F H (Ext.refl e) (.str _)⟩
  · exact .inr (od_mul F H x y _ _ d Q e r1 r2 hg k)
theorem e_mulX (ha : PE X a (ofE X.K cm fa)) (hb : PE X b (ofE X.K cm fb)) : PE X (.BinOp a .Mult b pos) (ofE X.K cm (bin mulX fa fb)) := e_bin op_mulX od_mulX ha hb
theorem u70 {k : Nat} {A : Around} (r : Room k A) : A.units + 70 < cLine := by
  have := r.un
  omega
/-- a law's promise -/
def spL (K : PySem.W.Frag) : Sp := fun vs H Q E => ∃ (a : Addr) (ns : List Int), vs = [.ref a] ∧ SqL K H a (ns.map V.int) ∧ ns.length ≤ 63 ∧ ∀ H', Q (.bl true) H'
theorem law_ok {P : Program} {w : World} {K : PySem.W.Frag} {mg : Str → Option Value} {base : Heap} {cm : Str → Addr} {k : Nat} {f : Addr} {fd : FuncData} {ps : List Str} {g : List Dat → Option Out} (G : FnOk P w K mg base (L2.CX P w) k f fd ps (spX K cm g)) (hg : ∀ ns : List Int, ns.length ≤ 63 → g [.scr (ns.map Dat.int)] = some (.ok (.fro (.bl true)))) :
    FnOk P w K mg base (L2.CX P w) k f fd ps (spL K) := G.imp fun vs H Q E ⟨a, ns, ev, hS, hl, q⟩ => by
  subst ev
  refine ⟨H, _, _, Same.refl H, .cons (.scr hS (ints_rs ns)) .nil, hg ns hl, fun v F' H' A x r nd n => ?_⟩
  cases r with
  | fro z =>
    rw [z.bl_inv]
    exact q H'
/-! ### a def of a class -/
structure Mtd (K : PySem.W.Frag) (x qual : Str) (st : Stmt) (f : Addr) (fd : FuncData) (ps : List Str) : Prop where
  F : L2.Fun K x qual st f fd
  b : Binds K fd ps []
end
end
end Pq

namespace Pq
open PySem PySem.Spec PyProof.Rows L2
noncomputable section
/-! ### sorted(list of tuples that are of one kind as far as they are alike) -/
def alkF : List PyData → List PyData → Bool
  | x :: xs, y :: ys => PySem.W.alike x y && (!PyData.eqv x y || alkF xs ys)
  | _, _ => true
def atm : Dat → Bool
  | .int _ => true | .str _ => true | _ => false
def its : Dat → List Dat
  | .tup xs => xs
  | _ => []
/-- tuples of whole numbers and texts, a text ahead -/
def fltT (d : Dat) : Prop := ∃ x xs, d = .tup (.str x :: xs) ∧ xs.all atm = true
def srtQ (ds : List Dat) : Prop := (∀ d ∈ ds, fltT d) ∧ (∀ d ∈ ds, ∀ d' ∈ ds, alkF (pys (its d)) (pys (its d')) = true) ∧ ds.length ≤ sizeLine
section
variable {prog : Program} {w : World} {A : Around} {s : Shared} {h : Heap}
theorem flat_unique : ∀ {xs ys : List Dat} {vs : List Value} {as bs : List Addr}, xs.all atm = true → ys.all atm = true → ReadsAll h vs (pys xs) as → ReadsAll h vs (pys ys) bs → pys xs = pys ys
  | [], [], _, _, _, _, _, _, _ => rfl
  | [], y :: ys, _, _, _, _, _, r, r' => by
    simp only [pys] at r r'
    cases r; cases r'
  | x :: xs, [], _, _, _, _, _, r, r' => by
    simp only [pys] at r r'
    cases r'; cases r
  | x :: xs, y :: ys, _, _, _, h1, h2, r, r' => by
    simp only [pys] at r r' ⊢
    rw [List.all_cons, Bool.and_eq_true] at h1 h2
    cases r with
    | cons q qs =>
      cases r' with
      | cons q' qs' =>
        rw [flat_unique h1.2 h2.2 qs qs']
        congr 1
        cases x <;> first | (cases h1.1; done) | skip
        all_goals cases y <;> first | (cases h2.1; done) | skip
        all_goals
          simp only [py] at q q' ⊢
          cases q <;> cases q' <;> rfl
theorem flt_unique {d d' : Dat} {v : Value} {as bs : List Addr} (h1 : fltT d) (h2 : fltT d') (r : Reads h v (py d) as) (r' : Reads h v (py d') bs) : py d = py d' := by
  obtain ⟨x, xs, rfl, hx⟩ := h1
  obtain ⟨y, ys, rfl, hy⟩ := h2
  simp only [py] at r r' ⊢
  cases r with
  | tuple k1 k2 k3 k4 =>
    cases r' with
    | tuple l1 l2 l3 l4 =>
      rw [k1] at l1; cases l1
      rw [k3] at l3; cases l3
      rw [flat_unique (by rw [List.all_cons, hx]; rfl) (by rw [List.all_cons, hy]; rfl) k4 l4]
theorem kind_some {ds : List Dat} (hf : ∀ d ∈ ds, fltT d) {v : Value} {d : Dat} {as : List Addr} (hd : d ∈ ds) (r : Reads h v (py d) as) : (PySem.W.dataKind h (ds.map py)).keyOf v = some (PySem.W.keyToks (py d)) := by
  have q : ∃ e, e ∈ ds.map py ∧ ∃ as, Reads h v e as := ⟨py d, List.mem_map_of_mem hd, as, r⟩
  have e : (PySem.W.dataKind h (ds.map py)).keyOf v = some (PySem.W.keyToks q.choose) := by
    show (open Classical in if q : ∃ e, e ∈ ds.map py ∧ ∃ as, Reads h v e as then some (PySem.W.keyToks q.choose) else none) = _
    rw [dif_pos q]
  obtain ⟨h1, as', h2⟩ := q.choose_spec
  obtain ⟨d', hd', e'⟩ := List.mem_map.mp h1
  rw [e, ← e', flt_unique (hf d' hd') (hf d hd) (e' ▸ h2) r]
/-- where one row is at its end, the shorter one is ahead -/
theorem lex_end : ∀ {xs ys : List PyData}, (xs = [] ∨ ys = []) → PyProof.Rows.lexLt itemOrd (PySem.W.keyToksAll xs) (PySem.W.keyToksAll ys) = decide (xs.length < ys.length)
  | [], [], _ => lex_irrefl _
  | [], y :: ys, _ => by
    rw [PySem.W.toks_all_cons, PySem.W.keyToksAll, lex_diff (O := itemOrd) (by simp)]
    simp [itemLt]
  | x :: xs, [], _ => by
    rw [PySem.W.toks_all_cons, PySem.W.keyToksAll, lex_diff (O := itemOrd) (by simp)]
    simp [itemLt]
theorem kat_flat {b fin : Bool} {Q : Bool → Shared → Prop} (xs : List PyData) : ∀ (ys : List PyData) (i : Nat) (vs ws : List Value) (as bs : List Addr), ReadsAll s.heap vs xs as → ReadsAll s.heap ws ys bs → alkF xs ys = true →
    A.units + min (PyData.depthAll xs) (PyData.depthAll ys) < cLine → (b = true → i = 0 → ∀ x r t, xs = x :: r → x ≠ .tuple t) → fin = decide (xs.length < ys.length) → Q (PyProof.Rows.lexLt itemOrd (PySem.W.keyToksAll xs) (PySem.W.keyToksAll ys)) s → PySem.W.KatLex prog w A b fin Q (vs.zip ws) i s := by
  induction xs with
  | nil =>
    intro ys i vs ws as bs rx ry _ _ _ he q
    cases rx
    rw [lex_end (.inl rfl), ← he] at q
    exact PySem.W.kat_nil q
  | cons x xs ih =>
    intro ys i vs ws as bs rx ry al room first he q
    cases ys with
    | nil =>
      cases ry
      rw [lex_end (.inr rfl), ← he] at q
      rw [List.zip_nil_right]
      exact PySem.W.kat_nil q
    | cons y ys =>
      obtain ⟨hd, tl⟩ := Bool.and_eq_true_iff.mp (show (PySem.W.alike x y && (!PyData.eqv x y || alkF xs ys)) = true from al)
      cases rx with
      | cons p ps =>
        cases ry with
        | cons p' ps' =>
          have top := SeqAt.room_head room
          refine PySem.W.kat_cons (PySem.W.eqAt_alike x y A s _ _ _ _ p p' hd top prog w _ _ ?_)
          cases same : PyData.eqv x y
          · refine PySem.W.kat_no (PySem.W.oneLt_alike (fun both t => ?_) p p' hd (PySem.W.ne_none_of hd same) top ((PySem.W.dataLt_all_no hd same) ▸ q))
            obtain ⟨q1, q2⟩ := Bool.and_eq_true_iff.mp both
            exact first q1 (by simpa using q2) x xs t rfl
          · have q' := (PySem.W.dataLt_all_yes hd same) ▸ q
            exact PySem.W.kat_yes (ih ys (i + 1) _ _ _ _ ps ps' (by simpa [same] using tl) (SeqAt.room_tail room) (fun _ z => by omega) (by rw [he]; simp) q')
theorem depth_atms : ∀ {xs : List Dat}, xs.all atm = true → PyData.depthAll (pys xs) = 0
  | [], _ => by rw [pys, PyData.depthAll]
  | x :: xs, hx => by
    rw [List.all_cons, Bool.and_eq_true] at hx
    rw [pys, PyData.depthAll, depth_atms hx.2]
    cases x <;> first | (cases hx.1; done) | skip
    all_goals rw [py, PyData.depth]; rfl
theorem sorts_flat {vs : List Value} {ds : List Dat} (e : PySem.W.EachIs (fun v d => ∃ as, Reads s.heap v d as) vs (ds.map py)) (hf : ∀ d ∈ ds, fltT d) (hal : ∀ d ∈ ds, ∀ d' ∈ ds, alkF (pys (its d)) (pys (its d')) = true) (hu : A.units + 2 < cLine) : PySem.W.SortsAt prog w A s (PySem.W.dataKind s.heap (ds.map py)) vs := by
  refine ⟨fun v hv => ?_, ?_⟩
  · obtain ⟨d, hd, as, r⟩ := e.left v hv
    obtain ⟨d', hd', rfl⟩ := List.mem_map.mp hd
    exact ⟨_, kind_some hf hd' r⟩
  · refine ⟨tuples' true, ?_, fun h2 E Q hq => ?_⟩
    · intro E x y a b Q ha hb hq
      obtain ⟨d, as, hd, ra, rfl⟩ := PySem.W.dataKind_inv ha
      obtain ⟨d', as', hd', rb, rfl⟩ := PySem.W.dataKind_inv hb
      obtain ⟨d1, m1, rfl⟩ := List.mem_map.mp hd
      obtain ⟨d2, m2, rfl⟩ := List.mem_map.mp hd'
      have hdd := hal d1 m1 d2 m2
      obtain ⟨x1, r1, rfl, a1⟩ := hf d1 m1
      obtain ⟨x2, r2, rfl, a2⟩ := hf d2 m2
      have q1 : PyData.depthAll (pys (.str x1 :: r1)) = 0 := depth_atms (by rw [List.all_cons, a1]; rfl)
      have q2 : PyData.depthAll (pys (.str x2 :: r2)) = 0 := depth_atms (by rw [List.all_cons, a2]; rfl)
      have hq' : Q (PySem.W.dataLt (.tuple (pys (.str x1 :: r1))) (.tuple (pys (.str x2 :: r2)))) s := by
        have : Q (PySem.W.dataLt (py (.tup (.str x1 :: r1))) (py (.tup (.str x2 :: r2)))) s := hq
        rw [py, py] at this
        exact this
      rw [PySem.W.dataLt_tuple] at hq'
      rw [py] at ra rb
      cases ra with
      | @tuple l o xs n _ _ h1 h2 h3 h4 =>
        cases rb with
        | @tuple l' o' xs' n' _ _ k1 k2 k3 k4 =>
          have n1 : xs.size = (pys (.str x1 :: r1)).length := by simpa using SeqAt.ReadsAll.length _ _ _ h4
          have n2 : xs'.size = (pys (.str x2 :: r2)).length := by simpa using SeqAt.ReadsAll.length _ _ _ k4
          refine PySem.W.kat_lt h1 h3 k1 k3 (kat_flat (pys (.str x1 :: r1)) (pys (.str x2 :: r2)) 0 _ _ _ _ h4 k4 hdd (by rw [q1, q2]; omega) (fun hb _ x r t ex => ?_) (by rw [n1, n2]) hq')
          rw [pys, py] at ex
          obtain ⟨rfl, rfl⟩ := List.cons.inj ex
          intro z
          cases z
    · have ht : ∀ d, d ∈ ds.map py → ∃ x r, d = .tuple (x :: r) := fun d hd => by
        obtain ⟨d1, m1, rfl⟩ := List.mem_map.mp hd
        obtain ⟨x1, r1, rfl, a1⟩ := hf d1 m1
        rw [py, pys]
        exact ⟨_, _, rfl⟩
      obtain ⟨fs, t1, t2, t3⟩ := PySem.W.each_katTups e ht
      refine PySem.W.kat_kind (T := .type "str") t1 (by omega) (fun f hf' => ?_) (beq_self_eq_true _) hq
      obtain ⟨x, r, as, m1, m2⟩ := t3 f hf'
      obtain ⟨d1, m3, e1⟩ := List.mem_map.mp m1
      obtain ⟨x1, r1, rfl, a1⟩ := hf d1 m3
      rw [py, pys, py] at e1
      cases e1
      exact PySem.W.looks_reads m2
end
section
variable {X : Cx} {cm : Str → Addr} {e : Expr} {es : List Expr} {fs : Rho → Option (List Dat)} {pos p : Pos}
theorem pl_flt {d : Dat} (h : fltT d) : pl d = true := by
  obtain ⟨x, xs, rfl, a⟩ := h
  rw [pl, pls_all, List.all_cons, Bool.and_eq_true]
  refine ⟨by rw [pl], List.all_eq_true.mpr fun y hy => ?_⟩
  have := List.all_eq_true.mp a y hy
  cases y <;> first | rfl | cases this
def rSrtQ (K : PySem.W.Frag) (cm : Str → Addr) : List V → Hp → VK → Prop := fun vs H Q => ∃ F a ws ds, vs = [V.ref a] ∧ Same F H ∧ SqL K F a ws ∧ Rs K cm F ws ds ∧ srtQ ds ∧ ∀ ws' p, H p = none → Rs K cm F ws' (ds.mergeSort leY) → Q (.ref p) (upd H p (.lst ws'))
theorem cr_srtQ (hu : X.A.units + 64 < cLine) : CallR X (.builtin "sorted") (rSrtQ X.K cm) := by
  intro pins s σ H vs us Q I r ⟨F, a, ws, ds, ev, e, hs, rs, ⟨p1, p2, p4⟩, q⟩
  subst ev
  obtain ⟨its, rv, hl, _⟩ := I.list (e.seq hs)
  rw [Vals.ref1 r]
  obtain ⟨z1, z2⟩ := zip_snd rs
  have hm : (ws.zip ds).map (fun b : V × Dat => py b.2) = ds.map py := by
    have := congrArg (List.map py) z1
    rw [List.map_map] at this
    exact this
  have er := Rs.mem rs rv
  have er2 : PySem.W.EachIs (fun u (b : V × Dat) => ∃ as, Reads s.heap u (py b.2) as) its (ws.zip ds) := by
    have : ∀ {us : List Value} {bs : List (V × Dat)}, (∀ b ∈ bs, pl b.2 = true) → PySem.W.EachIs (fun u (b : V × Dat) => RelV b.1 u ∧ R X.K cm F b.1 b.2) us bs → PySem.W.EachIs (fun u (b : V × Dat) => ∃ as, Reads s.heap u (py b.2) as) us bs := by
      intro us bs hb h
      induction h with
      | nil => exact .nil
      | cons h t ih => exact .cons (R.reads I e h.2 (hb _ List.mem_cons_self) h.1) (ih fun b hb' => hb b (List.mem_cons_of_mem _ hb'))
    exact this (fun b hb => (p1 b.2 (by rw [← z1]; exact List.mem_map_of_mem hb)) |> pl_flt) er
  have er' : PySem.W.EachIs (fun v (b : V × Dat) => ∃ as, Reads (PySem.W.sortingHeap (PySem.W.copyHeap s.heap its) (s.heap.objs.size + 1) its) v (py b.2) as) its (ws.zip ds) := er2.mono fun _ _ ⟨as, r⟩ => ⟨as, PyProof.Rows.Reads.keeps (fun _ _ => PySem.W.sorting_copy_old) r⟩
  have er3 : PySem.W.EachIs (fun v d => ∃ as, Reads (PySem.W.sortingHeap (PySem.W.copyHeap s.heap its) (s.heap.objs.size + 1) its) v d as) its (ds.map py) := by
    have := PySem.W.each_map (R := fun v d => ∃ as, Reads (PySem.W.sortingHeap (PySem.W.copyHeap s.heap its) (s.heap.objs.size + 1) its) v d as) (fun b : V × Dat => py b.2) er'
    rwa [hm] at this
  have hlen : its.length = ds.length := by rw [er.length, z2]
  refine PySem.W.sorted_vals (κ := PySem.W.dataKind (PySem.W.sortingHeap (PySem.W.copyHeap s.heap its) (s.heap.objs.size + 1) its) (ds.map py)) hl.isList (sorts_flat (s := { s with heap := PySem.W.sortingHeap (PySem.W.copyHeap s.heap its) (s.heap.objs.size + 1) its }) er3 p1 p2 (by show X.A.units + 1 + 1 + 2 < cLine; omega)) (by rw [hlen]; exact p4) ?_
  have ek : PySem.W.EachIs (fun v (b : V × Dat) => (PySem.W.dataKind (PySem.W.sortingHeap (PySem.W.copyHeap s.heap its) (s.heap.objs.size + 1) its) (ds.map py)).keyOf v = some (PySem.W.keyToks (py b.2))) its (ws.zip ds) :=
    (PySem.W.each_mem er').mono fun v b ⟨⟨as, r⟩, hb⟩ => kind_some p1 (by rw [← z1]; exact List.mem_map_of_mem hb) r
  have hout : PySem.W.EachIs (fun u (b : V × Dat) => RelV b.1 u ∧ R X.K cm F b.1 b.2) (PySem.W.sortVals (PySem.W.dataKind (PySem.W.sortingHeap (PySem.W.copyHeap s.heap its) (s.heap.objs.size + 1) its) (ds.map py)) false its its) ((ws.zip ds).mergeSort (PySem.W.dataLe false fun b : V × Dat => py b.2)) :=
    PySem.W.sortVals_each (κ := PySem.W.dataKind _ (ds.map py)) (fun b : V × Dat => PySem.W.keyToks (py b.2)) er ek
  have ho : (PySem.W.sortVals (PySem.W.dataKind (PySem.W.sortingHeap (PySem.W.copyHeap s.heap its) (s.heap.objs.size + 1) its) (ds.map py)) false its its).length = ds.length := by
    rw [PySem.W.sortVals_length false rfl]; exact hlen
  obtain ⟨q1, q2⟩ := each_out hout
  have e2 : ((ws.zip ds).mergeSort (PySem.W.dataLe false fun b : V × Dat => py b.2)).map (·.2) = ds.mergeSort leY := by
    rw [List.map_mergeSort (r := PySem.W.dataLe false fun b : V × Dat => py b.2) (s := leY) (f := fun b : V × Dat => b.2), z1]
    intro a _ b _
    rfl
  rw [e2] at q2
  obtain ⟨ep, he'⟩ := PyProof.Rows.sortedAll_at s.heap its (List.toArray (PySem.W.sortVals (PySem.W.dataKind (PySem.W.sortingHeap (PySem.W.copyHeap s.heap its) (s.heap.objs.size + 1) its) (ds.map py)) false its its))
  have hl2 : (((ws.zip ds).mergeSort (PySem.W.dataLe false fun b : V × Dat => py b.2)).map (·.1)).length ≤ sizeLine := by rw [q1.length, ho]; exact p4
  exact ⟨.ref _, upd H (s.heap.objs.size + 1) (.lst _), I.laid (t' := s.toks) (fun _ _ => PyProof.Rows.sortedAll_old) (Nat.le_succ _) ⟨hl2, _, ep, q1, he'⟩, rfl, q _ _ (I.hok.fresh (Nat.le_succ _)) q2⟩
def sortQ : List Dat → Option Dat
  | [.lst ds] => @ite _ (srtQ ds) (Classical.propDecidable _) (some (.lst (ds.mergeSort leY))) (sortDct [.lst ds])
  | d => sortDct d
theorem cr_srtX (hc : X.calm = true) (hu : X.A.units + 64 < cLine) : CallR X (.builtin "sorted") (fun vs H Q => rSrtQ X.K cm vs H Q ∨ rSrtD X.K cm vs H Q) := by
  intro pins s σ H vs us Q I r h
  rcases h with h | h
  · exact cr_srtQ hu pins s σ H vs us Q I r h
  · exact call_srtD hc hu pins s σ H vs us Q I r h
theorem cd_srtX : ClD X cm (fun vs H Q => rSrtQ X.K cm vs H Q ∨ rSrtD X.K cm vs H Q) sortQ := fun F H vs ds d Q e rs hg k => by
  unfold sortQ at hg
  split at hg
  · rename_i ys
    by_cases c : srtQ ys
    · rw [ifp c] at hg
      cases hg
      obtain ⟨v, rfl, r⟩ := rs.one
      obtain ⟨a, ws, rfl, h, q⟩ := r.lst_inv
      exact .inl ⟨F, a, ws, _, rfl, e, .inl h, q, c, fun ws' p hp r' => new_lst e r' k p hp⟩
    · have hg' : sortDct [.lst ys] = some d := by
        simpa only [if_neg c] using hg
      exact .inr (cd_srtD F H vs _ d Q e rs hg' k)
  · exact .inr (cd_srtD F H vs _ d Q e rs hg k)
theorem e_sortX (hc : X.calm = true) (hu : X.A.units + 64 < cLine) (hg : Gl X "sorted") (hm : X.mg "sorted" = none) (ha : PA X (e :: es) (ofA X.K cm fs)) (he : starEach (e :: es) X.env = (false, eval e X.env) :: starEach es X.env := by rfl) (hpl : (backTo pos (starEach es X.env)).any (·.1) = false := by rfl) :
    PE X (.Call (.Name "sorted" p) (e :: es) [] pos) (ofE X.K cm (app sortQ fs)) := e_callB (cr_srtX hc hu) cd_srtX hg hm (by decide +kernel) ha (by decide) (by decide) he hpl
end
end
end Pq

namespace Pq
open PySem PySem.Spec PyProof.Rows L2
noncomputable section
section
variable {X : Cx} {cm : Str → Addr} {e : Expr} {es : List Expr} {fs : Rho → Option (List Dat)} {pos p : Pos}
/-! ### sorted(..), a list of one's own -/
def olOf : Dat → Option SV
  | .lst xs => some (.ol (xs.map SV.fro))
  | _ => none
def sortO (ds : List Dat) : Option SV := (sortQ ds).bind olOf
theorem co_srtX : ClO X cm (fun vs H Q => rSrtQ X.K cm vs H Q ∨ rSrtD X.K cm vs H Q) sortO := fun F H vs ds sv Q e rs hg k => by
  unfold sortO at hg
  obtain ⟨d, e1, hg⟩ := bind_some hg
  unfold sortQ at e1
  split at e1
  · rename_i ys
    by_cases c : srtQ ys
    · rw [ifp c] at e1
      cases e1
      cases hg
      obtain ⟨v, rfl, r⟩ := rs.one
      obtain ⟨a, ws, rfl, h, q⟩ := r.lst_inv
      exact .inl ⟨F, a, ws, _, rfl, e, .inl h, q, c, fun ws' p hp r' => own_lst e r' k p hp⟩
    · have e2 : sortDct [.lst ys] = some d := by simpa only [if_neg c] using e1
      have e3 : sortD [.lst ys] = some d := e2
      unfold sortD at e3
      obtain ⟨c', rfl⟩ := ite_some e3
      cases hg
      obtain ⟨v, rfl, r⟩ := rs.one
      obtain ⟨a, ws, rfl, h, q⟩ := r.lst_inv
      exact .inr (.inr ⟨F, a, ws, _, rfl, e, .inl h, q, c', fun ws' p hp r' => own_lst e r' k p hp⟩)
  · unfold sortDct at e1
    split at e1
    · obtain ⟨ys, e2, e1⟩ := bind_some e1
      obtain ⟨c, rfl⟩ := ite_some e1
      cases hg
      obtain ⟨v, rfl, r⟩ := rs.one
      obtain ⟨a, kvs, rfl, g, ek, z⟩ := r.dct_inv
      have := keysT_is e2
      refine .inr (.inl ⟨a, kvs, ys, rfl, same_rd e g, by rw [ek, this], c, fun zs q pm hs hq => ?_⟩)
      rw [sorted_is pm hs]
      exact own_lst e (rs_strs _) k q hq
    · unfold sortD at e1
      split at e1
      · simp_all
      · cases e1
theorem o_sortX (hc : X.calm = true) (hu : X.A.units + 64 < cLine) (hg : Gl X "sorted") (hm : X.mg "sorted" = none) (ha : PA X (e :: es) (ofA X.K cm fs)) (he : starEach (e :: es) X.env = (false, eval e X.env) :: starEach es X.env := by rfl) (hpl : (backTo pos (starEach es X.env)).any (·.1) = false := by rfl) :
    PE X (.Call (.Name "sorted" p) (e :: es) [] pos) (ofO X.K cm (appO sortO fs)) := PE.imp (pe_callB (cr_srtX hc hu) hg hm (by decide +kernel) ha (by decide) (by decide) he hpl) (appO_of co_srtX)
end
end
end Pq

namespace Pq
open PySem PySem.Spec PyProof.Rows L2
noncomputable section
@[simp high] theorem ob_some {α β : Type} (x : α) (f : α → Option β) : Option.bind (some x) f = f x := id rfl

@[simp] theorem size_is : sizeLine = 16777216 := by decide +kernel

/-! ### how the readings are worked out -/
def txs (xs : List Str) : List Dat := xs.map Dat.str
@[simp] theorem cast_eq_nat (a b : Nat) : ((a : Int) = (b : Int)) = (a = b) := propext Int.ofNat_inj
@[simp] theorem txs_len (xs : List Str) : (txs xs).length = xs.length := List.length_map _
@[simp] theorem txs_app (xs ys : List Str) : txs xs ++ txs ys = txs (xs ++ ys) := (List.map_append).symm
@[simp] theorem txs_rev (xs : List Str) : (txs xs).reverse = txs xs.reverse := List.map_reverse.symm
@[simp] theorem txs_nil : txs [] = [] := id rfl
theorem txs_cons (x : Str) (xs : List Str) : txs (x :: xs) = .str x :: txs xs := rfl
@[simp] theorem txs_get (xs : List Str) (n : Nat) : (txs xs)[n]? = (xs[n]?).map Dat.str := List.getElem?_map
@[simp] theorem m_rd0 (d : Dat) (ρ : Rho) : rd 0 (some (.fro d) :: ρ) = some d := id rfl
@[simp] theorem m_rdS (n : Nat) (x : Option SV) (ρ : Rho) : rd (n + 1) (x :: ρ) = rd n ρ := id rfl
@[simp] theorem m_set0 (x y : Option SV) (ρ : Rho) : List.set (x :: ρ) 0 y = y :: ρ := id rfl
@[simp] theorem m_setS (n : Nat) (x y : Option SV) (ρ : Rho) : List.set (x :: ρ) (n + 1) y = x :: List.set ρ n y := id rfl
@[simp] theorem m_kD (d : Dat) (ρ : Rho) : kD d ρ = some d := id rfl
@[simp] theorem m_bin (g : Dat → Dat → Option Dat) (fa fb : Rho → Option Dat) (ρ : Rho) : bin g fa fb ρ = (fa ρ).bind fun x => (fb ρ).bind fun y => g x y := id rfl
@[simp] theorem m_un (g : Dat → Option Dat) (fa : Rho → Option Dat) (ρ : Rho) : un g fa ρ = (fa ρ).bind g := id rfl
def tb : Dat → Option Bool
  | .bl k => some k
  | _ => none
@[simp] theorem tb_bl (k : Bool) : tb (.bl k) = some k := id rfl
@[simp] theorem m_tst (f : Rho → Option Dat) (ρ : Rho) : tst f ρ = (f ρ).bind tb := id rfl
@[simp] theorem m_and2 (f g : Rho → Option Bool) (ρ : Rho) : and2 f g ρ = (f ρ).bind fun k => if k = true then g ρ else some false := id rfl
@[simp] theorem m_or2 (f g : Rho → Option Bool) (ρ : Rho) : or2 f g ρ = (f ρ).bind fun k => if k = true then some true else g ρ := id rfl
@[simp] theorem m_not1 (f : Rho → Option Bool) (ρ : Rho) : not1 f ρ = (f ρ).bind fun k => some (!k) := by
  unfold not1
  cases f ρ <;> rfl
@[simp] theorem m_andV (f g : Rho → Option Dat) (ρ : Rho) : andV f g ρ = (f ρ).bind fun d => (tb d).bind fun k => if k = true then g ρ else some (.bl false) := by
  unfold andV
  cases h : f ρ with
  | none => rfl
  | some d =>
    cases d with
    | bl k => cases k <;> rfl
    | _ => rfl
@[simp] theorem m_orV (f g : Rho → Option Dat) (ρ : Rho) : orV f g ρ = (f ρ).bind fun d => (tb d).bind fun k => if k = true then some (.bl true) else g ρ := by
  unfold orV
  cases h : f ρ with
  | none => rfl
  | some d =>
    cases d with
    | bl k => cases k <;> rfl
    | _ => rfl
@[simp] theorem m_notV (f : Rho → Option Dat) (ρ : Rho) : notV f ρ = (f ρ).bind fun d => (tb d).bind fun k => some (.bl (!k)) := by
  unfold notV
  cases h : f ρ with
  | none => rfl
  | some d =>
    cases d with
    | bl k => cases k <;> rfl
    | _ => rfl
@[simp] theorem m_noneS (f : Rho → Option Dat) (ρ : Rho) : noneS f ρ = (f ρ).bind fun d => some (.bl (isNo d)) := id rfl
@[simp] theorem m_someS (f : Rho → Option Dat) (ρ : Rho) : someS f ρ = (f ρ).bind fun d => some (.bl (!isNo d)) := id rfl
@[simp] theorem m_chn (f : Rho → Option Dat) (c : Dat → Rho → Option Dat) (ρ : Rho) : chn f c ρ = (f ρ).bind fun x => c x ρ := id rfl
@[simp] theorem m_ch1 (g : Dat → Dat → Option Dat) (f : Rho → Option Dat) (x : Dat) (ρ : Rho) : ch1 g f x ρ = (f ρ).bind fun y => g x y := id rfl
@[simp] theorem m_chC (g : Dat → Dat → Option Dat) (f : Rho → Option Dat) (c : Dat → Rho → Option Dat) (x : Dat) (ρ : Rho) : chC g f c x ρ = (f ρ).bind fun y => (g x y).bind fun d => (tb d).bind fun k => if k = true then c y ρ else some (.bl false) := by
  unfold chC
  congr 1
  funext y
  cases g x y with
  | none => rfl
  | some d =>
    cases d with
    | bl k => cases k <;> rfl
    | _ => rfl
@[simp] theorem m_consA (f : Rho → Option Dat) (g : Rho → Option (List Dat)) (ρ : Rho) : consA f g ρ = (f ρ).bind fun x => (g ρ).bind fun xs => some (x :: xs) := by
  unfold consA
  congr 1
  funext x
  cases g ρ <;> rfl
@[simp] theorem m_nilA (ρ : Rho) : nilA ρ = some [] := id rfl
@[simp] theorem m_consO (f : Rho → Option SV) (g : Rho → Option (List SV)) (ρ : Rho) : consO f g ρ = (f ρ).bind fun x => (g ρ).bind fun xs => some (x :: xs) := by
  unfold consO
  congr 1
  funext x
  cases g ρ <;> rfl
@[simp] theorem m_nilO (ρ : Rho) : nilO ρ = some [] := id rfl
@[simp] theorem m_froS (f : Rho → Option Dat) (ρ : Rho) : froS f ρ = (f ρ).bind fun d => some (.fro d) := by
  unfold froS
  cases f ρ <;> rfl
@[simp] theorem m_frzS (f : Rho → Option SV) (ρ : Rho) : frzS f ρ = (f ρ).bind fun d => some (frz d) := by
  unfold frzS
  cases f ρ <;> rfl
def lstC (ds : List Dat) : Option Dat := @ite _ (ds.length ≤ sizeLine) (Classical.propDecidable _) (some (.lst ds)) none
@[simp] theorem m_lstC {ds : List Dat} (h : ds.length ≤ 16777216) : lstC ds = some (.lst ds) := ifp h
@[simp] theorem m_lstS (f : Rho → Option (List Dat)) (ρ : Rho) : lstS f ρ = (f ρ).bind lstC := id rfl
def tupC (ds : List Dat) : Option Dat := @ite _ (ds.length ≤ sizeLine) (Classical.propDecidable _) (some (.tup ds)) none
@[simp] theorem m_tupC {ds : List Dat} (h : ds.length ≤ 16777216) : tupC ds = some (.tup ds) := ifp h
@[simp] theorem m_tupS (f : Rho → Option (List Dat)) (ρ : Rho) : tupS f ρ = (f ρ).bind tupC := id rfl
def lstOC (ds : List SV) : Option SV := @ite _ (ds.length ≤ sizeLine) (Classical.propDecidable _) (some (.ol ds)) none
@[simp] theorem m_lstOC {ds : List SV} (h : ds.length ≤ 16777216) : lstOC ds = some (.ol ds) := ifp h
@[simp] theorem m_lstO (f : Rho → Option (List SV)) (ρ : Rho) : lstO f ρ = (f ρ).bind lstOC := id rfl
def tupOC (ds : List SV) : Option SV := @ite _ (ds.length ≤ sizeLine) (Classical.propDecidable _) (some (.tp ds)) none
@[simp] theorem m_tupOC {ds : List SV} (h : ds.length ≤ 16777216) : tupOC ds = some (.tp ds) := ifp h
@[simp] theorem m_tupO (f : Rho → Option (List SV)) (ρ : Rho) : tupO f ρ = (f ρ).bind tupOC := id rfl
@[simp] theorem m_app (g : List Dat → Option Dat) (f : Rho → Option (List Dat)) (ρ : Rho) : app g f ρ = (f ρ).bind g := id rfl
@[simp] theorem m_appO (g : List Dat → Option SV) (f : Rho → Option (List Dat)) (ρ : Rho) : appO g f ρ = (f ρ).bind g := id rfl
@[simp] theorem m_noP (ρ : Rho) : noP ρ = some none := id rfl
def pi : Dat → Option (Option Int)
  | .int i => some (some i)
  | _ => none
@[simp] theorem pi_int (i : Int) : pi (.int i) = some (some i) := id rfl
@[simp] theorem m_prt (f : Rho → Option Dat) (ρ : Rho) : prt f ρ = (f ρ).bind pi := id rfl
@[simp] theorem m_slS (f : Rho → Option Dat) (l h : Rho → Option (Option Int)) (ρ : Rho) : slS f l h ρ = (f ρ).bind fun x => (l ρ).bind fun lo => (h ρ).bind fun hi => slD x lo hi := id rfl
def slOD (d : Dat) (lo hi : Option Int) : Option SV := match d with
  | .lst xs => some (.ol ((cut xs lo hi).map SV.fro))
  | _ => none
@[simp] theorem m_slO (f : Rho → Option Dat) (l h : Rho → Option (Option Int)) (ρ : Rho) : slO f l h ρ = (f ρ).bind fun x => (l ρ).bind fun lo => (h ρ).bind fun hi => slOD x lo hi := id rfl
def okv : Out → Option SV
  | .ok sv => some sv
  | .exc _ _ _ => none
@[simp] theorem okv_ok (sv : SV) : okv (.ok sv) = some sv := id rfl
@[simp] theorem m_callS (g : List Dat → Option Out) (f : Rho → Option (List Dat)) (ρ : Rho) : callS g f ρ = (f ρ).bind fun ds => (g ds).bind okv := id rfl
def sq : Dat → Option (List Dat)
  | .lst xs => some xs
  | .scr xs => some xs
  | .tup xs => some xs
  | _ => none
@[simp] theorem sq_lst (xs : List Dat) : sq (.lst xs) = some xs := id rfl
@[simp] theorem sq_scr (xs : List Dat) : sq (.scr xs) = some xs := id rfl
@[simp] theorem sq_tup (xs : List Dat) : sq (.tup xs) = some xs := id rfl
@[simp] theorem m_itS (f : Rho → Option Dat) (ρ : Rho) : itS f ρ = (f ρ).bind sq := id rfl
def r1 : List Dat → Option (List Dat)
  | [.int j] => @ite _ (-(2 ^ 62) ≤ j ∧ j < 2 ^ 62) (Classical.propDecidable _) (some (rng 0 j.toNat)) none
  | _ => none
def r2 : List Dat → Option (List Dat)
  | [.int i, .int j] => @ite _ (-(2 ^ 62) ≤ i ∧ i < 2 ^ 62 ∧ -(2 ^ 62) ≤ j ∧ j < 2 ^ 62) (Classical.propDecidable _) (some (rng i (j - i).toNat)) none
  | _ => none
@[simp] theorem m_itR1 (f : Rho → Option (List Dat)) (ρ : Rho) : itR1 f ρ = (f ρ).bind r1 := id rfl
@[simp] theorem m_itR2 (f : Rho → Option (List Dat)) (ρ : Rho) : itR2 f ρ = (f ρ).bind r2 := id rfl
@[simp] theorem r1_int {j : Int} (h : -(2 ^ 62) ≤ j ∧ j < 2 ^ 62) : r1 [.int j] = some (rng 0 j.toNat) := ifp h
theorem r1_nat {n : Nat} (h : n < 2 ^ 62) : r1 [.int (n : Int)] = some (rng 0 n) := by rw [r1_int ⟨by omega, by omega⟩]; rfl
@[simp] theorem r2_int {i j : Int} (h : -(2 ^ 62) ≤ i ∧ i < 2 ^ 62 ∧ -(2 ^ 62) ≤ j ∧ j < 2 ^ 62) : r2 [.int i, .int j] = some (rng i (j - i).toNat) := ifp h
@[simp] theorem m_lcS (it : Rho → Option (List Dat)) (vs : List Nat) (h : Dat → Rho → Option Rho) (t : Rho → Option Bool) (f : Rho → Option Dat) (ρ : Rho) : lcS it vs h t f ρ = (lcL it vs h t f ρ).bind fun ds => some (.lst ds) := by
  unfold lcS
  cases lcL it vs h t f ρ <;> rfl
@[simp] theorem m_lcO (it : Rho → Option (List Dat)) (vs : List Nat) (h : Dat → Rho → Option Rho) (t : Rho → Option Bool) (f : Rho → Option Dat) (ρ : Rho) : lcO it vs h t f ρ = (lcL it vs h t f ρ).bind fun ds => some (.ol (ds.map SV.fro)) := by
  unfold lcO
  cases lcL it vs h t f ρ <;> rfl
def lcC (ds : List Dat) (r : Option (List Dat)) : Option (List Dat) := @ite _ (ds.length ≤ sizeLine) (Classical.propDecidable _) (r) none
@[simp] theorem m_lcC {ds : List Dat} {r : Option (List Dat)} (h : ds.length ≤ 16777216) : lcC ds r = r := ifp h
@[simp] theorem m_lcL (it : Rho → Option (List Dat)) (vs : List Nat) (h : Dat → Rho → Option Rho) (t : Rho → Option Bool) (f : Rho → Option Dat) (ρ : Rho) : lcL it vs h t f ρ = (it ρ).bind fun ds => lcC ds (lcGo h t f (wipeR ρ vs) ds) := id rfl
@[simp] theorem m_hName (i : Nat) (d : Dat) (ρ : Rho) : hName i d ρ = some (ρ.set i (some (.fro d))) := id rfl
@[simp] theorem m_hNil (ρ : Rho) : hNil [] ρ = some ρ := id rfl
@[simp] theorem m_hCons (h : Dat → Rho → Option Rho) (hs : List Dat → Rho → Option Rho) (d : Dat) (ds : List Dat) (ρ : Rho) : hCons h hs (d :: ds) ρ = (h d ρ).bind fun ρ1 => hs ds ρ1 := id rfl
@[simp] theorem m_hTup (n : Nat) (hs : List Dat → Rho → Option Rho) (ds : List Dat) (ρ : Rho) : hTup n hs (.tup ds) ρ = if ds.length = n then hs ds ρ else none := id rfl
@[simp] theorem m_yes (ρ : Rho) : yes ρ = some true := id rfl
@[simp] theorem m_asV (f : Rho → Option Bool) (ρ : Rho) : asV f ρ = (f ρ).bind fun k => some (.bl k) := by
  unfold asV
  cases f ρ <;> rfl
/-! statements -/
def thn (r : Res) (c : Rho → Res) : Res := match r with
  | .nx ρ' => c ρ'
  | r => r
@[simp] theorem thn_nx (ρ : Rho) (c : Rho → Res) : thn (.nx ρ) c = c ρ := id rfl
@[simp] theorem thn_ret (v : SV) (c : Rho → Res) : thn (.ret v) c = .ret v := id rfl
@[simp] theorem thn_brk (v : Rho) (c : Rho → Res) : thn (.brk v) c = .brk v := id rfl
@[simp] theorem thn_cont (v : Rho) (c : Rho → Res) : thn (.cont v) c = .cont v := id rfl
@[simp] theorem thn_exc (n : Str) (fs : List Str) (xs : List Dat) (c : Rho → Res) : thn (.exc n fs xs) c = .exc n fs xs := id rfl
def nd {α : Type} (o : Option α) (k : α → Res) : Res := match o with
  | some x => k x
  | none => .bad
@[simp] theorem nd_some {α : Type} (x : α) (k : α → Res) : nd (some x) k = k x := id rfl
@[simp] theorem m_seqS (b c : Rho → Res) (ρ : Rho) : seqS b c ρ = thn (b ρ) c := id rfl
@[simp] theorem m_nilS (ρ : Rho) : nilS ρ = .nx ρ := id rfl
@[simp] theorem m_brkS (ρ : Rho) : brkS ρ = .brk ρ := id rfl
@[simp] theorem m_contS (ρ : Rho) : contS ρ = .cont ρ := id rfl
@[simp] theorem m_asgS (i : Nat) (f : Rho → Option Dat) (ρ : Rho) : asgS i f ρ = nd (f ρ) fun d => .nx (ρ.set i (some (.fro d))) := by
  unfold asgS
  cases f ρ <;> rfl
@[simp] theorem m_asgO (i : Nat) (f : Rho → Option SV) (ρ : Rho) : asgO i f ρ = nd (f ρ) fun d => .nx (ρ.set i (some d)) := by
  unfold asgO
  cases f ρ <;> rfl
@[simp] theorem m_asgT (h : Dat → Rho → Option Rho) (f : Rho → Option Dat) (ρ : Rho) : asgT h f ρ = nd (f ρ) fun d => nd (h d ρ) Res.nx := by
  unfold asgT
  cases f ρ with
  | none => rfl
  | some d =>
    simp only [nd]
    cases h d ρ <;> rfl
@[simp] theorem m_retS (f : Rho → Option Dat) (ρ : Rho) : retS f ρ = nd (f ρ) fun d => .ret (.fro d) := by
  unfold retS
  cases f ρ <;> rfl
@[simp] theorem m_retO (f : Rho → Option SV) (ρ : Rho) : retO f ρ = nd (f ρ) fun d => .ret d := by
  unfold retO
  cases f ρ <;> rfl
@[simp] theorem m_rtN (ρ : Rho) : rtN ρ = .ret (.fro .non) := id rfl
@[simp] theorem m_ifS (t : Rho → Option Bool) (b c : Rho → Res) (ρ : Rho) : ifS t b c ρ = nd (t ρ) fun k => if k = true then b ρ else c ρ := by
  unfold ifS
  cases t ρ with
  | none => rfl
  | some k => cases k <;> rfl
@[simp] theorem m_drpS (f : Rho → Option SV) (ρ : Rho) : drpS f ρ = nd (f ρ) fun _ => .nx ρ := by
  unfold drpS
  cases f ρ <;> rfl
@[simp] theorem m_frzTo (i : Nat) (b : Rho → Res) (ρ : Rho) : frzTo i b ρ = b (frzAt i ρ) := id rfl
@[simp] theorem m_lookT (i : Nat) (b : Rho → Option Bool) (ρ : Rho) : lookT i b ρ = b (frzAt i ρ) := id rfl
@[simp] theorem m_lookE (i : Nat) (b : Rho → Option Dat) (ρ : Rho) : lookE i b ρ = (b (frzAt i ρ)).bind fun d => if isScal d = true then some d else none := id rfl
@[simp] theorem m_frz0 (sv : SV) (ρ : Rho) : frzAt 0 (some sv :: ρ) = some (.fro (frz sv)) :: ρ := id rfl
@[simp] theorem m_frzN (ρ : Rho) : frzAt 0 (none :: ρ) = none :: ρ := id rfl
@[simp] theorem m_frzS' (n : Nat) (x : Option SV) (ρ : Rho) : frzAt (n + 1) (x :: ρ) = x :: frzAt n ρ := by
  unfold frzAt
  rw [List.getElem?_cons_succ]
  cases ρ[n]? with
  | none => rfl
  | some y => cases y <;> rfl
def push (d : Dat) (o : Option (Option SV)) (k : SV → Res) : Res := match o with
  | some (some (.ol xs)) => @ite _ (xs.length < sizeLine) (Classical.propDecidable _) (k (.ol (xs ++ [.fro d]))) .bad
  | _ => .bad
@[simp] theorem push_ol (d : Dat) (xs : List SV) (k : SV → Res) (h : xs.length < sizeLine) : push d (some (some (.ol xs))) k = k (.ol (xs ++ [.fro d])) := ifp h
@[simp] theorem m_pushS (i : Nat) (f : Rho → Option Dat) (ρ : Rho) : pushS i f ρ = nd (f ρ) fun d => push d ρ[i]? fun sv => .nx (ρ.set i (some sv)) := by
  unfold pushS
  cases f ρ with
  | none => rfl
  | some d =>
    unfold nd push
    cases ρ[i]? with
    | none => rfl
    | some o =>
      cases o with
      | none => rfl
      | some sv => cases sv <;> rfl
@[simp] theorem m_forS (it : Rho → Option (List Dat)) (h : Dat → Rho → Option Rho) (b : Rho → Res) (ρ : Rho) : forS it h b ρ = nd (it ρ) fun ds => forGo h b ds ρ := by
  unfold forS
  cases it ρ <;> rfl
def fin : Res → Option Out
  | .ret sv => some (.ok sv)
  | .nx _ => some (.ok (.fro .non))
  | _ => none
@[simp] theorem fin_ret (sv : SV) : fin (.ret sv) = some (.ok sv) := id rfl
@[simp] theorem fin_nx (ρ : Rho) : fin (.nx ρ) = some (.ok (.fro .non)) := id rfl
@[simp] theorem m_fnS (n m : Nat) (b : Rho → Res) (ds : List Dat) : fnS n m b ds = if ds.length = m then fin (b (startR n ds)) else none := id rfl
@[simp] theorem m_startR (n : Nat) (ds : List Dat) : startR n ds = ds.map (fun d => some (SV.fro d)) ++ List.replicate (n - ds.length) none := id rfl
/-! operators -/
@[simp] theorem add_int (i j : Int) : addD (.int i) (.int j) = some (.int (i + j)) := id rfl
@[simp] theorem add_str {x y : Str} (h : x.length + y.length ≤ sizeLine) : addD (.str x) (.str y) = some (.str (x ++ y)) := ifp h
@[simp] theorem add_lst {x y : List Dat} (h : x.length + y.length ≤ sizeLine) : addD (.lst x) (.lst y) = some (.lst (x ++ y)) := ifp h
@[simp] theorem plus_int (i j : Int) : plusD (.int i) (.int j) = some (.int (i + j)) := id rfl
@[simp] theorem sub_int (i j : Int) : subD (.int i) (.int j) = some (.int (i - j)) := id rfl
@[simp] theorem mul_int {i j : Int} (h : (-(2 ^ 64) < i ∧ i < 2 ^ 64) ∨ (-(2 ^ 64) < j ∧ j < 2 ^ 64)) : mulD (.int i) (.int j) = some (.int (i * j)) := ifp h
@[simp] theorem div_int {i j : Int} (h : 0 < j ∧ j < 1073741824) : divD (.int i) (.int j) = some (.int (i / j)) := ifp h
@[simp] theorem mod_int {i j : Int} (h : 0 < j) : modD (.int i) (.int j) = some (.int (i % j)) := ifp h
@[simp] theorem shr_int {i j : Int} (h : 0 ≤ j) : shrD (.int i) (.int j) = some (.int (i / 2 ^ j.toNat)) := ifp h
@[simp] theorem and_int (i j : Int) : andD (.int i) (.int j) = some (.int (Builtin.bitAnd i j)) := id rfl
@[simp] theorem xor_int (i j : Int) : xorD (.int i) (.int j) = some (.int (Builtin.bitXor i j)) := id rfl
@[simp] theorem neg_int (i : Int) : negD (.int i) = some (.int (-i)) := id rfl
@[simp] theorem lt_int (i j : Int) : ltD (.int i) (.int j) = some (.bl (decide (i < j))) := id rfl
@[simp] theorem le_int (i j : Int) : leD (.int i) (.int j) = some (.bl (decide (i ≤ j))) := id rfl
@[simp] theorem gt_int (i j : Int) : gtD (.int i) (.int j) = some (.bl (decide (j < i))) := id rfl
@[simp] theorem ge_int (i j : Int) : geD (.int i) (.int j) = some (.bl (decide (j ≤ i))) := id rfl
@[simp] theorem len_lst (xs : List Dat) : lenD [.lst xs] = some (.int xs.length) := id rfl
@[simp] theorem len_tup (xs : List Dat) : lenD [.tup xs] = some (.int xs.length) := id rfl
@[simp] theorem len_scr (xs : List Dat) : lenD [.scr xs] = some (.int xs.length) := id rfl
@[simp] theorem min_int (i j : Int) : minD [.int i, .int j] = some (.int (min i j)) := by
  show some (Dat.int (if j < i then j else i)) = _
  congr 2
  split <;> omega
@[simp high] theorem min_nat (a b : Nat) : minD [.int (a : Int), .int (b : Int)] = some (.int ((min a b : Nat) : Int)) := by
  rw [min_int]
  congr 2
  omega
@[simp high] theorem max_nat (a b : Nat) : maxD [.int (a : Int), .int (b : Int)] = some (.int ((max a b : Nat) : Int)) := by
  show some (Dat.int (if (b : Int) > (a : Int) then (b : Int) else a)) = _
  congr 2
  split <;> omega
@[simp] theorem max_int (i j : Int) : maxD [.int i, .int j] = some (.int (max i j)) := by
  show some (Dat.int (if j > i then j else i)) = _
  congr 2
  split <;> omega
@[simp] theorem list_lst (xs : List Dat) : listD [.lst xs] = some (.lst xs) := id rfl
@[simp] theorem list_scr (xs : List Dat) : listD [.scr xs] = some (.lst xs) := id rfl
@[simp] theorem list_tup (xs : List Dat) : listD [.tup xs] = some (.lst xs) := id rfl
@[simp] theorem listO_lst (xs : List Dat) : listO [.lst xs] = some (.ol (xs.map SV.fro)) := id rfl
@[simp] theorem tuple_lst (xs : List Dat) : tupleD [.lst xs] = some (.tup xs) := id rfl
@[simp] theorem str_int {i : Int} (h : i.natAbs.log2 < 1920) : strD [.int i] = some (.str (toString i)) := ifp h
@[simp] theorem rev_lst (xs : List Dat) : revD (.lst xs) = some (.lst xs.reverse) := id rfl
@[simp] theorem sl_lst (xs : List Dat) (lo hi : Option Int) : slD (.lst xs) lo hi = some (.lst (cut xs lo hi)) := id rfl
@[simp] theorem sl_scr (xs : List Dat) (lo hi : Option Int) : slD (.scr xs) lo hi = some (.lst (cut xs lo hi)) := id rfl
@[simp] theorem slO_lst (xs : List Dat) (lo hi : Option Int) : slOD (.lst xs) lo hi = some (.ol ((cut xs lo hi).map SV.fro)) := id rfl
@[simp] theorem ix_lst (xs : List Dat) (i : Int) : subD' (.lst xs) (.int i) = atI xs i := id rfl
@[simp] theorem ix_tup (xs : List Dat) (i : Int) : subD' (.tup xs) (.int i) = atI xs i := id rfl
@[simp] theorem ix_scr (xs : List Dat) (i : Int) : subD' (.scr xs) (.int i) = atI xs i := id rfl
theorem atI_nat {α : Type} (xs : List α) (n : Nat) : atI xs (n : Int) = xs[n]? := by
  unfold L2.atI L2.ixN
  rw [if_pos (Int.natCast_nonneg n)]
  by_cases h : n < xs.length
  · rw [if_pos (by exact_mod_cast h)]
    simp
  · rw [if_neg (by exact_mod_cast h)]
    simp at h
    simp [h]
@[simp] theorem at0 (x : Dat) (xs : List Dat) : atI (x :: xs) 0 = some x := by
  have := atI_nat (x :: xs) 0
  simpa using this
@[simp] theorem at1 (x y : Dat) (xs : List Dat) : atI (x :: y :: xs) 1 = some y := by
  have := atI_nat (x :: y :: xs) 1
  simpa using this
@[simp] theorem at2 (x y z : Dat) (xs : List Dat) : atI (x :: y :: z :: xs) 2 = some z := by
  have := atI_nat (x :: y :: z :: xs) 2
  simpa using this
@[simp] theorem at3 (x y z u : Dat) (xs : List Dat) : atI (x :: y :: z :: u :: xs) 3 = some u := by
  have := atI_nat (x :: y :: z :: u :: xs) 3
  simpa using this
@[simp] theorem at4 (x y z u v : Dat) (xs : List Dat) : atI (x :: y :: z :: u :: v :: xs) 4 = some v := by
  have := atI_nat (x :: y :: z :: u :: v :: xs) 4
  simpa using this
theorem log_small {n : Nat} (h : n < 1000000000000) : n.log2 < 1920 := by
  by_cases h0 : n = 0
  · subst h0; decide
  · exact (Nat.log2_lt h0).mpr (Nat.lt_of_lt_of_le h (Nat.le_trans (show 1000000000000 ≤ 2 ^ 40 by decide) (Nat.pow_le_pow_right (by decide) (by decide))))
theorem atI_get {xs : List Dat} {n : Nat} {i : Int} (h : n < xs.length) (e : i = (n : Int)) : atI xs i = some xs[n] := by
  rw [e, atI_nat, List.getElem?_eq_getElem h]
@[simp] theorem cut_none (xs : List Dat) : cut xs none none = xs := by
  unfold cut
  rw [HT.sIx_none, HT.sIx_none]
  simp
theorem cut_to (xs : List Dat) (n : Nat) : cut xs none (some (n : Int)) = xs.take n := by
  unfold cut
  rw [HT.sIx_none, HT.sIx_nat, List.drop_zero, Nat.sub_zero]
  rw [List.take_eq_take_iff]
  omega
theorem cut_from (xs : List Dat) (n : Nat) : cut xs (some (n : Int)) none = xs.drop n := by
  unfold cut
  rw [HT.sIx_none, HT.sIx_nat, List.take_of_length_le (by rw [List.length_drop]; omega)]
  by_cases h : n ≤ xs.length
  · rw [Nat.min_eq_left h]
  · rw [List.drop_of_length_le (by omega), List.drop_of_length_le (by omega)]
theorem cut_two (xs : List Dat) (m n : Nat) : cut xs (some (m : Int)) (some (n : Int)) = (xs.take n).drop m := by
  unfold cut
  rw [HT.sIx_nat, HT.sIx_nat]
  by_cases h : m ≤ xs.length
  · rw [Nat.min_eq_left h, List.drop_take, List.take_eq_take_iff, List.length_drop]
    omega
  · rw [List.drop_of_length_le (by omega), List.drop_of_length_le (by rw [List.length_take]; omega), List.take_nil]
theorem cut_len (xs : List Dat) (lo hi : Option Int) : (cut xs lo hi).length ≤ xs.length := by
  unfold cut
  rw [List.length_take, List.length_drop]
  omega
theorem cut_map {α : Type} (g : α → Dat) (xs : List α) (lo hi : Option Int) : ∃ ys : List α, cut (xs.map g) lo hi = ys.map g ∧ ys.length ≤ xs.length :=
  ⟨(xs.drop (HT.sIx (xs.map g).length 0 lo)).take (HT.sIx (xs.map g).length (xs.map g).length hi - HT.sIx (xs.map g).length 0 lo), by unfold cut; rw [List.map_take, List.map_drop], by rw [List.length_take, List.length_drop]; omega⟩

@[simp] theorem cut_to' (xs : List Str) {i : Int} (h : 0 ≤ i) : cut (txs xs) none (some i) = txs (xs.take i.toNat) := by
  have := cut_to (txs xs) i.toNat
  rw [Int.toNat_of_nonneg h] at this
  rw [this, txs, txs, List.map_take]
@[simp] theorem cut_from' (xs : List Str) {i : Int} (h : 0 ≤ i) : cut (txs xs) (some i) none = txs (xs.drop i.toNat) := by
  have := cut_from (txs xs) i.toNat
  rw [Int.toNat_of_nonneg h] at this
  rw [this, txs, txs, List.map_drop]
@[simp] theorem cut_two' (xs : List Str) {i j : Int} (h : 0 ≤ i ∧ 0 ≤ j) : cut (txs xs) (some i) (some j) = txs ((xs.take j.toNat).drop i.toNat) := by
  have := cut_two (txs xs) i.toNat j.toNat
  rw [Int.toNat_of_nonneg h.1, Int.toNat_of_nonneg h.2] at this
  rw [this, txs, txs, List.map_drop, List.map_take]
theorem cut_txs (xs : List Str) (lo hi : Option Int) : ∃ ys : List Str, cut (txs xs) lo hi = txs ys ∧ ys.length ≤ xs.length := cut_map Dat.str xs lo hi
theorem at_txs {xs : List Str} {n : Nat} (h : n < xs.length) : atI (txs xs) (n : Int) = some (.str xs[n]) := by
  rw [atI_nat, txs_get, List.getElem?_eq_getElem h]
  rfl
theorem at_txs' {xs : List Str} {i : Int} {n : Nat} (e : i = (n : Int)) (h : n < xs.length) : atI (txs xs) i = some (.str xs[n]) := by
  rw [e, at_txs h]

/-! equal data -/
instance : DecidableEq Dat := fun a b => Classical.propDecidable (a = b)
mutual
/-- no truth value, dict, object in it -/
def sim : Dat → Bool
  | .non => true | .int _ => true | .str _ => true
  | .lst xs => sims xs
  | .tup xs => sims xs
  | .bl _ => false | .dct _ _ => false | .obj _ _ _ => false | .scr _ => false
def sims : List Dat → Bool
  | [] => true
  | x :: xs => sim x && sims xs
end
mutual
theorem sim_cpt : ∀ {d d' : Dat}, sim d = true → sim d' = true → cpt d d' = true
  | .non, d', _, h => by cases d' <;> first | rfl | cases h
  | .int _, d', _, h => by cases d' <;> first | rfl | cases h
  | .str _, d', _, h => by cases d' <;> first | rfl | cases h
  | .lst xs, .lst ys, h, h' => by
    rw [sim] at h h'
    rw [cpt]
    exact sims_cpt h h'
  | .tup xs, .tup ys, h, h' => by
    rw [sim] at h h'
    rw [cpt]
    exact sims_cpt h h'
  | .lst xs, .non, h, _ => rfl
  | .lst xs, .int _, h, _ => rfl
  | .lst xs, .str _, h, _ => rfl
  | .lst xs, .tup _, h, _ => rfl
  | .tup xs, .non, h, _ => rfl
  | .tup xs, .int _, h, _ => rfl
  | .tup xs, .str _, h, _ => rfl
  | .tup xs, .lst _, h, _ => rfl
  | .lst xs, .bl _, _, h => by cases h
  | .lst xs, .dct _ _, _, h => by cases h
  | .lst xs, .obj _ _ _, _, h => by cases h
  | .lst xs, .scr _, _, h => by cases h
  | .tup xs, .bl _, _, h => by cases h
  | .tup xs, .dct _ _, _, h => by cases h
  | .tup xs, .obj _ _ _, _, h => by cases h
  | .tup xs, .scr _, _, h => by cases h
  | .bl _, _, h, _ => by cases h
  | .dct _ _, _, h, _ => by cases h
  | .obj _ _ _, _, h, _ => by cases h
  | .scr _, _, h, _ => by cases h
theorem sims_cpt : ∀ {xs ys : List Dat}, sims xs = true → sims ys = true → cpts xs ys = true
  | [], _, _, _ => by rw [cpts]; simp
  | _ :: _, [], _, _ => by rw [cpts]; simp
  | x :: xs, y :: ys, h, h' => by
    rw [sims, Bool.and_eq_true] at h h'
    rw [cpts, Bool.and_eq_true]
    exact ⟨sim_cpt h.1 h'.1, sims_cpt h.2 h'.2⟩
end
mutual
theorem sim_eq : ∀ {d d' : Dat}, sim d = true → sim d' = true → (eqb d d' = true ↔ d = d')
  | .non, d', _, h => by cases d' <;> simp [eqb]
  | .int i, d', _, h => by cases d' <;> first | (cases h; done) | simp [eqb]
  | .str _, d', _, h => by cases d' <;> first | (cases h; done) | simp [eqb]
  | .lst xs, .lst ys, h, h' => by
    rw [sim] at h h'
    rw [eqb, sims_eq h h', Dat.lst.injEq]
  | .tup xs, .tup ys, h, h' => by
    rw [sim] at h h'
    rw [eqb, sims_eq h h', Dat.tup.injEq]
  | .lst xs, .non, h, _ => by simp [eqb]
  | .lst xs, .int _, h, _ => by simp [eqb]
  | .lst xs, .str _, h, _ => by simp [eqb]
  | .lst xs, .tup _, h, _ => by simp [eqb]
  | .tup xs, .non, h, _ => by simp [eqb]
  | .tup xs, .int _, h, _ => by simp [eqb]
  | .tup xs, .str _, h, _ => by simp [eqb]
  | .tup xs, .lst _, h, _ => by simp [eqb]
  | .lst xs, .bl _, _, h => by cases h
  | .lst xs, .dct _ _, _, h => by cases h
  | .lst xs, .obj _ _ _, _, h => by cases h
  | .lst xs, .scr _, _, h => by cases h
  | .tup xs, .bl _, _, h => by cases h
  | .tup xs, .dct _ _, _, h => by cases h
  | .tup xs, .obj _ _ _, _, h => by cases h
  | .tup xs, .scr _, _, h => by cases h
  | .bl _, _, h, _ => by cases h
  | .dct _ _, _, h, _ => by cases h
  | .obj _ _ _, _, h, _ => by cases h
  | .scr _, _, h, _ => by cases h
theorem sims_eq : ∀ {xs ys : List Dat}, sims xs = true → sims ys = true → (eqbs xs ys = true ↔ xs = ys)
  | [], [], _, _ => by simp [eqbs]
  | [], _ :: _, _, _ => by simp [eqbs]
  | _ :: _, [], _, _ => by simp [eqbs]
  | x :: xs, y :: ys, h, h' => by
    rw [sims, Bool.and_eq_true] at h h'
    rw [eqbs, Bool.and_eq_true, sim_eq h.1 h'.1, sims_eq h.2 h'.2, List.cons.injEq]
end
theorem eq_sim {d d' : Dat} (h : sim d = true) (h' : sim d' = true) (hd : dp d ≤ 50) : eqD d d' = some (.bl (decide (d = d'))) := by
  unfold eqD
  rw [if_pos (by rw [decide_eq_true hd, sim_cpt h h']; rfl)]
  congr 2
  rw [Bool.eq_iff_iff, sim_eq h h', decide_eq_true_eq]
theorem ne_sim {d d' : Dat} (h : sim d = true) (h' : sim d' = true) (hd : dp d ≤ 50) : neD d d' = some (.bl (!decide (d = d'))) := by
  unfold neD
  rw [if_pos (by rw [decide_eq_true hd, sim_cpt h h']; rfl)]
  congr 3
  rw [Bool.eq_iff_iff, sim_eq h h', decide_eq_true_eq]
@[simp] theorem eq_self {d : Dat} (h : sim d = true) (hd : dp d ≤ 50) : eqD d d = some (.bl true) := by
  rw [eq_sim h h hd, decide_eq_true rfl]
theorem ne_self {d : Dat} (h : sim d = true) (hd : dp d ≤ 50) : neD d d = some (.bl false) := by
  rw [ne_sim h h hd, decide_eq_true rfl]
  rfl
@[simp] theorem eq_int (i j : Int) : eqD (.int i) (.int j) = some (.bl (decide (i = j))) := by
  rw [eq_sim rfl rfl (by simp [dp])]
  simp only [Dat.int.injEq]
@[simp] theorem ne_int (i j : Int) : neD (.int i) (.int j) = some (.bl (!decide (i = j))) := by
  rw [ne_sim rfl rfl (by simp [dp])]
  simp only [Dat.int.injEq]
@[simp] theorem eq_str (i j : Str) : eqD (.str i) (.str j) = some (.bl (decide (i = j))) := by
  rw [eq_sim rfl rfl (by simp [dp])]
  simp only [Dat.str.injEq]
@[simp] theorem ne_str (i j : Str) : neD (.str i) (.str j) = some (.bl (!decide (i = j))) := by
  rw [ne_sim rfl rfl (by simp [dp])]
  simp only [Dat.str.injEq]
theorem sims_txs : ∀ xs : List Str, sims (txs xs) = true
  | [] => rfl
  | x :: xs => by
    show sims (.str x :: txs xs) = true
    rw [sims, sims_txs xs]
    rfl
theorem dps_txs : ∀ xs : List Str, dps (txs xs) = 0
  | [] => rfl
  | x :: xs => by
    show dps (.str x :: txs xs) = 0
    rw [dps, dps_txs xs, dp]
    rfl
@[simp] theorem txs_inj {xs ys : List Str} : txs xs = txs ys ↔ xs = ys := by
  constructor
  · exact fun h => (List.map_inj_right (fun a b h => Dat.str.inj h)).mp h
  · exact fun h => by rw [h]
@[simp] theorem eq_txs (xs ys : List Str) : eqD (.lst (txs xs)) (.lst (txs ys)) = some (.bl (decide (xs = ys))) := by
  rw [eq_sim (by rw [sim]; exact sims_txs _) (by rw [sim]; exact sims_txs _) (by rw [dp, dps_txs]; decide)]
  simp only [Dat.lst.injEq, txs_inj]
@[simp] theorem ne_txs (xs ys : List Str) : neD (.lst (txs xs)) (.lst (txs ys)) = some (.bl (!decide (xs = ys))) := by
  rw [ne_sim (by rw [sim]; exact sims_txs _) (by rw [sim]; exact sims_txs _) (by rw [dp, dps_txs]; decide)]
  simp only [Dat.lst.injEq, txs_inj]

@[simp] theorem isi_tup (xs : List Dat) : isiD "tuple" (.tup xs) = some (.bl true) := id rfl
@[simp] theorem isi_lst (xs : List Dat) : isiD "list" (.lst xs) = some (.bl true) := id rfl
@[simp] theorem isi_int (i : Int) : isiD "int" (.int i) = some (.bl true) := id rfl
@[simp] theorem isi_intb (i : Int) : isiD "bool" (.int i) = some (.bl false) := id rfl

/-! loops -/
theorem forGo_run {h : Dat → Rho → Option Rho} {b : Rho → Res} {ds : List Dat} (I : Nat → Rho → Prop) (hs : ∀ i (hi : i < ds.length) ρ, I i ρ → ∃ ρ1 ρ', h ds[i] ρ = some ρ1 ∧ (b ρ1 = .nx ρ' ∨ b ρ1 = .cont ρ') ∧ I (i + 1) ρ') {ρ : Rho} (h0 : I 0 ρ) : ∃ ρ', forGo h b ds ρ = .nx ρ' ∧ I ds.length ρ' := by
  suffices H : ∀ (n i : Nat) (ρ : Rho), i + n = ds.length → I i ρ → ∃ ρ', forGo h b (ds.drop i) ρ = .nx ρ' ∧ I ds.length ρ' from by
    have := H ds.length 0 ρ (by omega) h0
    rwa [List.drop_zero] at this
  intro n
  induction n with
  | zero =>
    intro i ρ e hI
    have : i = ds.length := by omega
    subst this
    rw [List.drop_length]
    exact ⟨ρ, rfl, hI⟩
  | succ n ih =>
    intro i ρ e hI
    have hi : i < ds.length := by omega
    obtain ⟨ρ1, ρ', e1, e2, e3⟩ := hs i hi ρ hI
    obtain ⟨ρ2, q1, q2⟩ := ih (i + 1) ρ' (by omega) e3
    refine ⟨ρ2, ?_, q2⟩
    rw [List.drop_eq_getElem_cons hi, forGo, e1]
    rcases e2 with e2 | e2
    · simp only [e2]
      exact q1
    · simp only [e2]
      exact q1
theorem lcGo_run {α : Type} {h : Dat → Rho → Option Rho} {t : Rho → Option Bool} {f : Rho → Option Dat} {ρ : Rho} {g : α → Dat} {p : α → Bool} {F : α → Dat} : ∀ (xs : List α), (∀ x ∈ xs, ∃ ρ1, h (g x) ρ = some ρ1 ∧ t ρ1 = some (p x) ∧ (p x = true → f ρ1 = some (F x))) → lcGo h t f ρ (xs.map g) = some ((xs.filter p).map F)
  | [], _ => rfl
  | x :: xs, H => by
    obtain ⟨ρ1, e1, e2, e3⟩ := H x List.mem_cons_self
    have ih := lcGo_run xs fun y hy => H y (List.mem_cons_of_mem _ hy)
    rw [List.map_cons, lcGo, e1, Option.bind_some, e2, Option.bind_some]
    cases hp : p x with
    | false => rw [if_neg (by decide), ih, List.filter_cons_of_neg (by rw [hp]; decide)]
    | true => rw [if_pos rfl, e3 hp, ih, List.filter_cons_of_pos hp]; rfl
theorem lcGo_map {α : Type} {h : Dat → Rho → Option Rho} {f : Rho → Option Dat} {ρ : Rho} {g : α → Dat} {F : α → Dat} (xs : List α) (H : ∀ x ∈ xs, ∃ ρ1, h (g x) ρ = some ρ1 ∧ f ρ1 = some (F x)) : lcGo h yes f ρ (xs.map g) = some (xs.map F) := by
  rw [lcGo_run (p := fun _ => true) xs fun x hx => by
    obtain ⟨ρ1, e1, e2⟩ := H x hx
    exact ⟨ρ1, e1, rfl, fun _ => e2⟩, List.filter_eq_self.mpr (by simp)]
theorem lcGo_txs {h : Dat → Rho → Option Rho} {f : Rho → Option Dat} {ρ : Rho} : ∀ (ds : List Dat), (∀ d ∈ ds, ∃ ρ1 s, h d ρ = some ρ1 ∧ f ρ1 = some (.str s)) → ∃ ss : List Str, lcGo h yes f ρ ds = some (txs ss) ∧ ss.length = ds.length
  | [], _ => ⟨[], rfl, rfl⟩
  | d :: ds, H => by
    obtain ⟨ρ1, s, e1, e2⟩ := H d List.mem_cons_self
    obtain ⟨ss, q1, q2⟩ := lcGo_txs ds fun y hy => H y (List.mem_cons_of_mem _ hy)
    refine ⟨s :: ss, ?_, by rw [List.length_cons, List.length_cons, q2]⟩
    rw [lcGo, e1, Option.bind_some]
    show (some true).bind _ = _
    rw [Option.bind_some, if_pos rfl, e2, q1]
    rfl
theorem mem_rng {lo : Int} {n : Nat} {d : Dat} (h : d ∈ rng lo n) : ∃ i : Nat, i < n ∧ d = .int (lo + i) := by
  unfold rng at h
  obtain ⟨i, h1, h2⟩ := List.mem_map.mp h
  exact ⟨i, List.mem_range.mp h1, h2.symm⟩
theorem rng_is (lo : Int) (n : Nat) : rng lo n = (List.range n).map fun (i : Nat) => Dat.int (lo + (i : Int)) := rfl
theorem len_str {z : Str} (h : z.length ≤ 16777216) : lenD [.str z] = some (.int z.length) := ifp h
theorem ix_str {z : Str} (i : Int) (h : z.length ≤ 16777216) : subD' (.str z) (.int i) = (atI z.cps.toList i).map fun c => Dat.str ⟨#[c]⟩ := ifp h
theorem txsOf_txs : ∀ ys : List Str, txsOf (txs ys) = some ys
  | [] => rfl
  | y :: ys => by
    rw [txs_cons, txsOf, txsOf_txs ys]
    rfl
theorem join_txs {a : Str} {ys : List Str} (h : (ys.map (·.length)).sum + ys.length * a.length ≤ 16777216) : joinD (.str a) (.lst (txs ys)) = some (.str (Txt.join a ys)) := by
  show (txsOf (txs ys)).bind _ = _
  rw [txsOf_txs, ob_some]
  exact ifp h
@[simp] theorem eq_bl (a b : Bool) : eqD (.bl a) (.bl b) = some (.bl (a == b)) := by
  unfold eqD
  rw [if_pos (by simp [dp, cpt])]
  rw [eqb]
@[simp] theorem ne_bl (a b : Bool) : neD (.bl a) (.bl b) = some (.bl (!(a == b))) := by
  unfold neD
  rw [if_pos (by simp [dp, cpt])]
  rw [eqb]
theorem any_txs (x : Str) : ∀ xs : List Str, ((txs xs).any fun c => eqb c (.str x)) = decide (x ∈ xs)
  | [] => by simp
  | y :: xs => by
    rw [txs_cons, List.any_cons, any_txs x xs, eqb]
    by_cases h : x = y
    · subst h; simp
    · have h' : ¬ y = x := fun z => h z.symm
      simp [h, h']
theorem flat_txs : ∀ xs : List Str, (txs xs).all flat = true
  | [] => rfl
  | y :: xs => by rw [txs_cons, List.all_cons, flat_txs xs]; rfl
theorem inB_lst (d : Dat) (xs : List Dat) (h : (flat d && xs.all flat) = true) : inB d (.lst xs) = some (xs.any fun c => eqb c d) := if_pos h
@[simp] theorem in_txs (x : Str) (xs : List Str) : inD (.str x) (.lst (txs xs)) = some (.bl (decide (x ∈ xs))) := by
  unfold inD
  rw [inB_lst _ _ (by rw [flat_txs]; rfl), any_txs]
  rfl
@[simp] theorem nin_txs (x : Str) (xs : List Str) : ninD (.str x) (.lst (txs xs)) = some (.bl (!decide (x ∈ xs))) := by
  unfold ninD
  rw [inB_lst _ _ (by rw [flat_txs]; rfl), any_txs]
  rfl
theorem at_neg {xs : List Str} {k : Nat} (h : k < xs.length) : atI (txs xs) (-1 - (k : Int)) = some (.str (xs[xs.length - 1 - k]'(by omega))) := by
  unfold L2.atI L2.ixN
  rw [if_neg (by omega), if_pos (by rw [txs_len]; omega), Option.bind_some, txs_len]
  have : (-1 - (k : Int) + (xs.length : Int)).toNat = xs.length - 1 - k := by omega
  rw [this, txs_get, List.getElem?_eq_getElem (by omega)]
  rfl
theorem while_count {t : Rho → Option Bool} {b : Rho → Res} (ρ : Nat → Rho) (K : Nat) (h1 : ∀ k, k < K → t (ρ k) = some true ∧ b (ρ k) = .nx (ρ (k + 1))) (h2 : t (ρ K) = some false) : ∀ (n k : Nat), k ≤ K → K - k < n → whileS t b n (ρ k) = .nx (ρ K) := by
  intro n
  induction n with
  | zero => intro k _ h; omega
  | succ n ih =>
    intro k hk hn
    rw [whileS]
    by_cases e : k = K
    · subst e
      rw [h2]
    · obtain ⟨q1, q2⟩ := h1 k (by omega)
      rw [q1]
      simp only [q2]
      exact ih (k + 1) (by omega) (by omega)
theorem forGo_find {h : Dat → Rho → Option Rho} {b : Rho → Res} {v : SV} (I : Rho → Prop) : ∀ (ds : List Dat) (ρ : Rho), (∀ d ∈ ds, ∀ ρ, I ρ → ∃ ρ1, h d ρ = some ρ1 ∧ (b ρ1 = .ret v ∨ ∃ ρ', b ρ1 = .nx ρ' ∧ I ρ')) → (∃ d ∈ ds, ∀ ρ, I ρ → ∃ ρ1, h d ρ = some ρ1 ∧ b ρ1 = .ret v) → I ρ → forGo h b ds ρ = .ret v
  | [], _, _, ⟨_, hd, _⟩, _ => by simp at hd
  | d :: ds, ρ, hs, ⟨e, he, hit⟩, hI => by
    obtain ⟨ρ1, e1, e2⟩ := hs d List.mem_cons_self ρ hI
    rw [forGo, e1]
    rcases e2 with e2 | ⟨ρ', e2, e3⟩
    · simp only [e2]
    · simp only [e2]
      rcases List.mem_cons.mp he with z | z
      · subst z
        obtain ⟨ρ2, q1, q2⟩ := hit ρ hI
        rw [e1] at q1
        cases q1
        rw [e2] at q2
        cases q2
      · exact forGo_find I ds ρ' (fun d hd => hs d (List.mem_cons_of_mem _ hd)) ⟨e, z, hit⟩ e3
theorem lcGo_strsP {P : Str → Prop} {h : Dat → Rho → Option Rho} {f : Rho → Option Dat} {ρ : Rho} : ∀ (ds : List Dat), (∀ d ∈ ds, ∃ ρ1 s, h d ρ = some ρ1 ∧ f ρ1 = some (.str s) ∧ P s) → ∃ ss : List Str, lcGo h yes f ρ ds = some (txs ss) ∧ ss.length = ds.length ∧ ∀ s ∈ ss, P s
  | [], _ => ⟨[], rfl, rfl, fun _ h => by simp at h⟩
  | d :: ds, H => by
    obtain ⟨ρ1, s, e1, e2, e3⟩ := H d List.mem_cons_self
    obtain ⟨ss, q1, q2, q3⟩ := lcGo_strsP ds fun y hy => H y (List.mem_cons_of_mem _ hy)
    refine ⟨s :: ss, ?_, by rw [List.length_cons, List.length_cons, q2], fun t ht => ?_⟩
    · rw [lcGo, e1, Option.bind_some]
      show (some true).bind _ = _
      rw [Option.bind_some, if_pos rfl, e2, q1]
      rfl
    · rcases List.mem_cons.mp ht with z | z
      · rw [z]; exact e3
      · exact q3 t z
theorem sum_ones : ∀ {ss : List Str}, (∀ s ∈ ss, s.length = 1) → (ss.map (·.length)).sum = ss.length
  | [], _ => rfl
  | s :: ss, h => by
    rw [List.map_cons, List.sum_cons, sum_ones fun t ht => h t (List.mem_cons_of_mem _ ht), h s List.mem_cons_self, List.length_cons]
    omega
end
end Pq

namespace Pq
open PySem PySem.Spec PyProof.Rows L2
noncomputable section
/-! ### the readings of Pq13 .. Pq20 -/
theorem map_toNat_inj : ∀ {a b : List Char}, a.map Char.toNat = b.map Char.toNat → a = b
  | [], [], _ => rfl
  | [], _ :: _, h => by simp at h
  | _ :: _, [], h => by simp at h
  | x :: a, y :: b, h => by
    rw [List.map_cons, List.map_cons, List.cons.injEq] at h
    rw [map_toNat_inj h.2, Char.toNat_inj.mp h.1]
@[simp] theorem ofs_inj (a b : String) : (Str.ofString a = Str.ofString b) = (a = b) := by
  apply propext
  constructor
  · intro h
    rw [Str.ofString_eq_toList, Str.ofString_eq_toList] at h
    have h1 := congrArg (fun s : Str => s.cps.toList) h
    simp only at h1
    exact String.toList_inj.mp (map_toNat_inj h1)
  · exact fun h => by rw [h]
def fldC (c f : Str) (x : SV) : Option (Option SV) → Option SV
  | some (some (.oo a c' fs xs)) => if c' = c ∧ f ∉ fs ∧ fs.length < 1000 then some (.oo a c' (fs ++ [f]) (xs ++ [x])) else none
  | _ => none
theorem fldC_oo (c f : Str) (x : SV) (a : Addr) (fs : List Str) (xs : List SV) (h : f ∉ fs ∧ fs.length < 1000) : fldC c f x (some (some (.oo a c fs xs))) = some (.oo a c (fs ++ [f]) (xs ++ [x])) := if_pos ⟨rfl, h⟩
@[simp] theorem m_fldS (i : Nat) (c f : Str) (g : Rho → Option SV) (ρ : Rho) : fldS i c f g ρ = nd (g ρ) fun x => nd (fldC c f x ρ[i]?) fun sv => .nx (ρ.set i (some sv)) := by
  unfold fldS
  cases g ρ with
  | none => rfl
  | some x =>
    simp only [nd]
    cases ρ[i]? with
    | none => rfl
    | some o =>
      cases o with
      | none => rfl
      | some sv =>
        cases sv <;> try rfl
        simp only [fldC]
        split <;> rfl
@[simp] theorem m_fldD {cs : List Str} {f : Str} (c : Str) (fs : List Str) (xs : List Dat) (h : c ∈ cs) : fldD cs f (.obj c fs xs) = lookF fs xs f := if_pos h
@[simp] theorem m_lookF (k : Str) (ks : List Str) (x : Dat) (xs : List Dat) (j : Str) : lookF (k :: ks) (x :: xs) j = if j = k then some x else lookF ks xs j := id rfl
def methC (c m : Str) (g : List Dat → Option Out) (ds : List Dat) : Dat → Option SV
  | .obj c' fl xs => if c' = c ∧ m ∉ fl then (g (.obj c' fl xs :: ds)).bind okv else none
  | _ => none
@[simp] theorem methC_obj (c m : Str) (g : List Dat → Option Out) (ds : List Dat) (fl : List Str) (xs : List Dat) (h : m ∉ fl) : methC c m g ds (.obj c fl xs) = (g (.obj c fl xs :: ds)).bind okv := if_pos ⟨rfl, h⟩
@[simp] theorem m_methS (c m : Str) (g : List Dat → Option Out) (fo : Rho → Option Dat) (f : Rho → Option (List Dat)) (ρ : Rho) : methS c m g fo f ρ = (fo ρ).bind fun d => (f ρ).bind fun ds => methC c m g ds d := by
  unfold methS
  congr 1
  funext d
  congr 1
  funext ds
  cases d <;> rfl
def fin0 : Res → Option SV
  | .nx ρ => match ρ[0]? with
    | some (some sv) => some sv
    | _ => none
  | _ => none
@[simp] theorem m_initS (n m : Nat) (b : Rho → Res) (c : Str) (x : Addr) (ds : List Dat) : initS n m b c x ds = if ds.length = m then fin0 (b (some (.oo x c [] []) :: startR n ds)) else none := by
  unfold initS fin0
  rfl
@[simp] theorem fin0_nx (sv : SV) (ρ : Rho) : fin0 (.nx (some sv :: ρ)) = some sv := id rfl
@[simp] theorem m_pushP0 (i : Nat) (f : Rho → Option Dat) (ρ : Rho) : pushP i [] f ρ = pushS i f ρ := by
  unfold pushP pushS
  cases f ρ with
  | none => rfl
  | some d =>
    simp only [getP, putP]
    cases ρ[i]? with
    | none => rfl
    | some o =>
      cases o with
      | none => rfl
      | some sv => cases sv <;> rfl
@[simp] theorem m_badS (ρ : Rho) : badS ρ = .bad := id rfl
@[simp] theorem ltX_int (i j : Int) : ltX (.int i) (.int j) = some (.bl (decide (i < j))) := id rfl
@[simp] theorem gtX_int (i j : Int) : gtX (.int i) (.int j) = some (.bl (decide (j < i))) := id rfl
@[simp] theorem leX_int (i j : Int) : leX (.int i) (.int j) = some (.bl (decide (i ≤ j))) := id rfl
@[simp] theorem geX_int (i j : Int) : geX (.int i) (.int j) = some (.bl (decide (j ≤ i))) := id rfl
def sLt (i j : Str) : Bool := decide (i.cps.toList < j.cps.toList)
@[simp] theorem ltX_str (i j : Str) : ltX (.str i) (.str j) = some (.bl (sLt i j)) := id rfl
@[simp] theorem mulX_int (i j : Int) : mulX (.int i) (.int j) = mulD (.int i) (.int j) := id rfl
@[simp] theorem mulX_str {x : Str} {n : Int} (h : repP x n) : mulX (.str x) (.int n) = some (.str (Txt.mul x n)) := ifp h
@[simp] theorem pow_int {i j : Int} (h : 0 ≤ j ∧ j ≤ 1000000 ∧ i.natAbs < 2 ^ 64) : powD (.int i) (.int j) = some (.int (i ^ j.toNat)) := ifp h
def notDct : Dat → Bool
  | .dct _ _ => false
  | _ => true
theorem eqX_eq {d d' : Dat} (h : notDct d = true) : eqX d d' = eqD d d' := by cases d <;> first | rfl | cases h
theorem neX_eq {d d' : Dat} (h : notDct d = true) : neX d d' = neD d d' := by cases d <;> first | rfl | cases h
@[simp] theorem eqX_int (i : Int) (d : Dat) : eqX (.int i) d = eqD (.int i) d := id rfl
@[simp] theorem eqX_str (i : Str) (d : Dat) : eqX (.str i) d = eqD (.str i) d := id rfl
@[simp] theorem eqX_bl (i : Bool) (d : Dat) : eqX (.bl i) d = eqD (.bl i) d := id rfl
@[simp] theorem eqX_lst (i : List Dat) (d : Dat) : eqX (.lst i) d = eqD (.lst i) d := id rfl
@[simp] theorem eqX_tup (i : List Dat) (d : Dat) : eqX (.tup i) d = eqD (.tup i) d := id rfl
@[simp] theorem eqX_non (d : Dat) : eqX .non d = eqD .non d := id rfl
@[simp] theorem neX_int (i : Int) (d : Dat) : neX (.int i) d = neD (.int i) d := id rfl
@[simp] theorem neX_str (i : Str) (d : Dat) : neX (.str i) d = neD (.str i) d := id rfl
@[simp] theorem neX_bl (i : Bool) (d : Dat) : neX (.bl i) d = neD (.bl i) d := id rfl
@[simp] theorem neX_lst (i : List Dat) (d : Dat) : neX (.lst i) d = neD (.lst i) d := id rfl
@[simp] theorem neX_tup (i : List Dat) (d : Dat) : neX (.tup i) d = neD (.tup i) d := id rfl
@[simp] theorem neX_non (d : Dat) : neX .non d = neD .non d := id rfl
@[simp] theorem isD2_bl (i j : Bool) : isD2 (.bl i) (.bl j) = some (.bl (decide (i = j))) := id rfl
@[simp] theorem isntD2_bl (i j : Bool) : isntD2 (.bl i) (.bl j) = some (.bl (!decide (i = j))) := id rfl
@[simp] theorem sub_dct (ks : List Key) (xs : List Dat) (k : Str) : subD' (.dct ks xs) (.str k) = look ks xs (.inr k) := id rfl
@[simp] theorem sub_dcti (ks : List Key) (xs : List Dat) (k : Int) : subD' (.dct ks xs) (.int k) = look ks xs (.inl k) := id rfl
@[simp] theorem get1_str (ks : List Key) (xs : List Dat) (k : Str) : get1D (.dct ks xs) (.str k) = some ((look ks xs (.inr k)).getD .non) := id rfl
@[simp] theorem dict_dct (ks : List Key) (xs : List Dat) : dictD [.dct ks xs] = some (.dct ks xs) := id rfl
theorem bls_map {α : Type} (g : α → Bool) : ∀ xs : List α, bls (xs.map fun x => Dat.bl (g x)) = some (xs.map g)
  | [] => rfl
  | x :: xs => by
    rw [List.map_cons, bls, bls_map g xs]
    rfl
theorem any_map {α : Type} (g : α → Bool) (xs : List α) : anyD [.lst (xs.map fun x => Dat.bl (g x))] = some (.bl (xs.any g)) := by
  show (bls _).bind _ = _
  rw [bls_map, ob_some, List.any_map]
  rfl
theorem all_map {α : Type} (g : α → Bool) (xs : List α) : allD [.lst (xs.map fun x => Dat.bl (g x))] = some (.bl (xs.all g)) := by
  show (bls _).bind _ = _
  rw [bls_map, ob_some, List.all_map]
  rfl
/-! loops, turn by turn -/
theorem forGo_each {α : Type} {h : Dat → Rho → Option Rho} {b : Rho → Res} (g : α → Dat) (I : List α → Rho → Prop) : ∀ (xs : List α), (∀ pre x suf, xs = pre ++ x :: suf → ∀ ρ, I pre ρ → ∃ ρ1 ρ', h (g x) ρ = some ρ1 ∧ (b ρ1 = .nx ρ' ∨ b ρ1 = .cont ρ') ∧ I (pre ++ [x]) ρ') → ∀ ρ, I [] ρ → ∃ ρ', forGo h b (xs.map g) ρ = .nx ρ' ∧ I xs ρ' := by
  intro xs hs
  suffices H : ∀ (suf pre : List α), xs = pre ++ suf → ∀ ρ, I pre ρ → ∃ ρ', forGo h b (suf.map g) ρ = .nx ρ' ∧ I xs ρ' from fun ρ h0 => H xs [] rfl ρ h0
  intro suf
  induction suf with
  | nil =>
    intro pre e ρ hI
    rw [List.append_nil] at e
    subst e
    exact ⟨ρ, rfl, hI⟩
  | cons x suf ih =>
    intro pre e ρ hI
    obtain ⟨ρ1, ρ', e1, e2, e3⟩ := hs pre x suf e ρ hI
    obtain ⟨ρ2, q1, q2⟩ := ih (pre ++ [x]) (by rw [e, List.append_assoc]; rfl) ρ' e3
    refine ⟨ρ2, ?_, q2⟩
    rw [List.map_cons, forGo, e1]
    rcases e2 with e2 | e2
    · simp only [e2]
      exact q1
    · simp only [e2]
      exact q1
/-- a comprehension's row, unknown but of a kind -/
theorem lcGo_gen {α : Type} (g : α → Dat) (P : α → Prop) {h : Dat → Rho → Option Rho} {t : Rho → Option Bool} {f : Rho → Option Dat} {ρ : Rho} : ∀ (ds : List Dat), (∀ d ∈ ds, ∃ ρ1 b, h d ρ = some ρ1 ∧ t ρ1 = some b ∧ (b = true → ∃ a, f ρ1 = some (g a) ∧ P a)) → ∃ as : List α, lcGo h t f ρ ds = some (as.map g) ∧ as.length ≤ ds.length ∧ ∀ a ∈ as, P a
  | [], _ => ⟨[], rfl, Nat.le_refl _, fun _ h => by simp at h⟩
  | d :: ds, H => by
    obtain ⟨ρ1, b, e1, e2, e3⟩ := H d List.mem_cons_self
    obtain ⟨as, q1, q2, q3⟩ := lcGo_gen g P ds fun y hy => H y (List.mem_cons_of_mem _ hy)
    cases b with
    | false =>
      refine ⟨as, ?_, by rw [List.length_cons]; omega, q3⟩
      rw [lcGo, e1, Option.bind_some, e2, Option.bind_some, if_neg (by decide)]
      exact q1
    | true =>
      obtain ⟨a, f1, f2⟩ := e3 rfl
      refine ⟨a :: as, ?_, by rw [List.length_cons, List.length_cons]; omega, fun x hx => ?_⟩
      · rw [lcGo, e1, Option.bind_some, e2, Option.bind_some, if_pos rfl, f1, q1]
        rfl
      · rcases List.mem_cons.mp hx with rfl | hx
        · exact f2
        · exact q3 x hx
/-! rows of whole numbers -/
def nus (xs : List Int) : List Dat := xs.map Dat.int
theorem sims_ints : ∀ xs : List Int, sims (nus xs) = true
  | [] => rfl
  | x :: xs => by
    show sims (.int x :: nus xs) = true
    rw [sims, sims_ints xs]
    rfl
theorem dps_ints : ∀ xs : List Int, dps (nus xs) = 0
  | [] => rfl
  | x :: xs => by
    show dps (.int x :: nus xs) = 0
    rw [dps, dps_ints xs, dp]
    rfl
@[simp] theorem ints_inj {xs ys : List Int} : nus xs = nus ys ↔ xs = ys :=
  ⟨fun h => (List.map_inj_right (fun a b h => Dat.int.inj h)).mp h, fun h => by rw [h]⟩
@[simp] theorem eq_ints (xs ys : List Int) : eqD (.tup (nus xs)) (.tup (nus ys)) = some (.bl (decide (xs = ys))) := by
  rw [eq_sim (by rw [sim]; exact sims_ints _) (by rw [sim]; exact sims_ints _) (by rw [dp, dps_ints]; decide)]
  simp only [Dat.tup.injEq, ints_inj]
@[simp] theorem eq_ints0 (xs : List Int) : eqD (.tup (nus xs)) (.tup []) = some (.bl (decide (xs = []))) := eq_ints xs []
@[simp] theorem eq_nonints (xs : List Int) : eqD .non (.tup (nus xs)) = some (.bl false) := by
  rw [eq_sim rfl (by rw [sim]; exact sims_ints _) (by rw [dp]; decide)]
  simp
theorem pys_ints : ∀ xs : List Int, pys (nus xs) = xs.map PyData.int
  | [] => by rw [nus, List.map_nil, pys]; rfl
  | x :: xs => by
    show pys (.int x :: nus xs) = _
    rw [pys, pys_ints xs, py]
    rfl
theorem pls_ints (xs : List Int) : pls (nus xs) = true := by
  rw [pls_all, List.all_eq_true]
  intro d hd
  obtain ⟨i, _, rfl⟩ := List.mem_map.mp hd
  rw [pl]
theorem lt_intsP (xs ys : List Int) : PySem.W.dataLt (py (.tup (nus xs))) (py (.tup (nus ys))) = decide (xs < ys) := by
  rw [py, py, pys_ints, pys_ints, PySem.W.dataLt_tuple]
  exact PySem.W.dataLt_ints xs ys
theorem ord_ints (xs ys : List Int) : ordP (.tup (nus xs)) (.tup (nus ys)) := by
  refine ⟨by rw [pl, pls_ints], by rw [pl, pls_ints], ?_, ?_, ?_⟩
  · rw [py, py, pys_ints, pys_ints, PySem.W.alike]
    exact PySem.W.alike_ints xs ys
  · rw [py]
    intro z
    cases z
  · rw [py, pys_ints, PyData.depth, PySem.W.depth_ints]
    omega
theorem ordX_ints (f : PyData → PyData → Bool) (g : Dat → Dat → Option Dat) (xs ys : List Int) : ordX f g (.tup (nus xs)) (.tup (nus ys)) = some (.bl (f (py (.tup (nus xs))) (py (.tup (nus ys))))) := by
  unfold ordX
  rw [if_pos (by rfl)]
  exact ifp (ord_ints xs ys)
@[simp] theorem lt_ints (xs ys : List Int) : ltX (.tup (nus xs)) (.tup (nus ys)) = some (.bl (decide (xs < ys))) := by
  unfold ltX
  rw [ordX_ints, lt_intsP]
@[simp] theorem ge_ints (xs ys : List Int) : geX (.tup (nus xs)) (.tup (nus ys)) = some (.bl (!decide (xs < ys))) := by
  unfold geX
  rw [ordX_ints, lt_intsP]
@[simp] theorem le_ints (xs ys : List Int) : leX (.tup (nus xs)) (.tup (nus ys)) = some (.bl (!decide (ys < xs))) := by
  unfold leX
  rw [ordX_ints, lt_intsP]
/-! sorting -/
theorem leY_tr (a b c : Dat) (h : leY a b = true) (h' : leY b c = true) : leY a c = true := by
  unfold leY PySem.W.dataLt at *
  rw [Bool.not_eq_true'] at *
  cases q : PyProof.Rows.lexLt itemOrd (PySem.W.keyToks (py c)) (PySem.W.keyToks (py a)) with
  | false => rfl
  | true =>
    rcases lex_negTrans _ (PySem.W.keyToks (py b)) _ q with z | z
    · rw [z] at h'; cases h'
    · rw [z] at h; cases h
theorem leY_tot (a b : Dat) : (leY a b || leY b a) = true := by
  unfold leY PySem.W.dataLt
  cases q : PyProof.Rows.lexLt itemOrd (PySem.W.keyToks (py b)) (PySem.W.keyToks (py a)) with
  | false => rfl
  | true =>
    cases q' : PyProof.Rows.lexLt itemOrd (PySem.W.keyToks (py a)) (PySem.W.keyToks (py b)) with
    | false => rfl
    | true =>
      have := lex_trans _ _ _ q q'
      rw [lex_irrefl] at this
      cases this
def tokA : Dat → Int ⊕ List Nat
  | .int i => .inl i
  | .str x => .inr x.cps.toList
  | _ => .inl 0
theorem toks_atm {d : Dat} (h : atm d = true) : PySem.W.keyToks (py d) = [tokA d] := by
  cases d <;> first | (cases h; done) | skip
  all_goals rw [py, PySem.W.keyToks]; rfl
theorem tokA_inj {d d' : Dat} (h : atm d = true) (h' : atm d' = true) (e : tokA d = tokA d') : d = d' := by
  cases d <;> first | (cases h; done) | skip
  all_goals cases d' <;> first | (cases h'; done) | skip
  · rw [tokA, tokA] at e
    cases e
    rfl
  · cases e
  · cases e
  · rw [tokA, tokA] at e
    rw [PySem.W.str_of_cps (Sum.inr.inj e)]
theorem toks_inj : ∀ {xs ys : List Dat}, xs.all atm = true → ys.all atm = true → PySem.W.keyToksAll (pys xs) = PySem.W.keyToksAll (pys ys) → xs = ys
  | [], [], _, _, _ => rfl
  | [], y :: ys, _, _, e => by
    rw [pys, pys, PySem.W.keyToksAll, PySem.W.keyToksAll] at e
    simp at e
  | x :: xs, [], _, _, e => by
    rw [pys, pys, PySem.W.keyToksAll, PySem.W.keyToksAll] at e
    simp at e
  | x :: xs, y :: ys, h1, h2, e => by
    rw [List.all_cons, Bool.and_eq_true] at h1 h2
    rw [pys, pys, PySem.W.keyToksAll, PySem.W.keyToksAll, toks_atm h1.1, toks_atm h2.1] at e
    simp only [List.cons_append, List.nil_append, List.cons.injEq, true_and] at e
    rw [tokA_inj h1.1 h2.1 e.1, toks_inj h1.2 h2.2 e.2]
theorem flt_anti {d d' : Dat} (h : fltT d) (h' : fltT d') (a : leY d d' = true) (b : leY d' d = true) : d = d' := by
  obtain ⟨x, xs, rfl, hx⟩ := h
  obtain ⟨y, ys, rfl, hy⟩ := h'
  unfold leY PySem.W.dataLt at a b
  rw [Bool.not_eq_true'] at a b
  have := lex_total _ _ b a
  rw [py, py, PySem.W.keyToks, PySem.W.keyToks] at this
  rw [toks_inj (by rw [List.all_cons, hx]; rfl) (by rw [List.all_cons, hy]; rfl) this]
theorem sort_perm {l l' : List Dat} (p : l.Perm l') (h : ∀ d ∈ l, fltT d) : l.mergeSort leY = l'.mergeSort leY := by
  have q : (l.mergeSort leY).Perm (l'.mergeSort leY) := (List.mergeSort_perm l leY).trans (p.trans (List.mergeSort_perm l' leY).symm)
  refine List.Perm.eq_of_pairwise (fun a b ha hb => flt_anti (h a ((List.mergeSort_perm l leY).mem_iff.mp ha)) (h b (p.mem_iff.mpr ((List.mergeSort_perm l' leY).mem_iff.mp hb)))) (List.pairwise_mergeSort leY_tr leY_tot l) (List.pairwise_mergeSort leY_tr leY_tot l') q
@[simp] theorem sortQ_flt {ds : List Dat} (h : srtQ ds) : sortQ [.lst ds] = some (.lst (ds.mergeSort leY)) := ifp h
theorem sortQ_dct {ks : List Str} {xs : List Dat} (h : ks.length < 64) : sortQ [.dct (ks.map Sum.inr) xs] = some (.lst (txs (ks.mergeSort strLe))) := by
  show (keysT (ks.map Sum.inr)).bind _ = _
  have : ∀ ks : List Str, keysT (ks.map Sum.inr) = some ks := fun ks => by
    induction ks with
    | nil => rfl
    | cons k ks ih => rw [List.map_cons, keysT, ih]; rfl
  rw [this, ob_some]
  exact ifp h
theorem look_map {α : Type} (k : α → Str) (v : α → Dat) : ∀ {xs : List α} {x : α}, (xs.map k).Nodup → x ∈ xs → look (xs.map fun x => Sum.inr (k x)) (xs.map v) (.inr (k x)) = some (v x)
  | y :: ys, x, nd, h => by
    rw [List.map_cons, List.map_cons, look]
    rcases List.mem_cons.mp h with rfl | h
    · rw [if_pos rfl]
    · rw [List.map_cons, List.nodup_cons] at nd
      rw [if_neg fun z => nd.1 (by rw [Sum.inr.inj z]; exact List.mem_map_of_mem h), look_map k v nd.2 h]
theorem look_none {α : Type} (k : α → Str) (v : α → Dat) (j : Str) : ∀ {xs : List α}, j ∉ xs.map k → look (xs.map fun x => Sum.inr (k x)) (xs.map v) (.inr j) = none
  | [], _ => rfl
  | y :: ys, h => by
    rw [List.map_cons, List.mem_cons, not_or] at h
    rw [List.map_cons, List.map_cons, look, if_neg fun z => h.1 (Sum.inr.inj z).symm, look_none k v j h.2]
end
end Pq

namespace Pq
open PySem PySem.Spec PyProof.Rows L2
noncomputable section
def S.alike_lines_b : Rho → Res := (seqS (asgS 3 (kD (.int 0)))
    (seqS (whileS (and2 (tst (bin ltD (rd 3) (rd 2))) (tst (bin eqD (bin subD' (rd 0) (rd 3)) (bin subD' (rd 1) (rd 3))))) (asgS 3 (bin plusD (rd 3) (kD (.int 1)))) 100000)
    (retS (rd 3))))
def S.alike_lines : List Dat → Option Out := fnS 4 3 S.alike_lines_b
def S.block_of_b : Rho → Res := (seqS (asgS 2 (app minD (consA (app lenD (consA (rd 0) nilA)) (consA (app lenD (consA (rd 1) nilA)) nilA))))
    (seqS (asgS 3 (frzS (callS S.alike_lines (consA (rd 0) (consA (rd 1) (consA (rd 2) nilA))))))
    (seqS (asgS 4 (frzS (callS S.alike_lines (consA (un revD (rd 0)) (consA (un revD (rd 1)) (consA (bin subD (rd 2) (rd 3)) nilA))))))
    (retO (tupO (consO (froS (rd 3)) (consO (froS (bin subD (app lenD (consA (rd 0) nilA)) (rd 4))) (consO (slO (rd 1) (prt (rd 3)) (prt (bin subD (app lenD (consA (rd 1) nilA)) (rd 4)))) nilO))))))))
def S.block_of : List Dat → Option Out := fnS 5 2 S.block_of_b
def S.are_apart_b : Rho → Res := (seqS (ifS (tst (chn (bin subD' (rd 0) (kD (.int 0))) (chC eqD (bin subD' (rd 0) (kD (.int 1))) (chC eqD (bin subD' (rd 1) (kD (.int 0))) (ch1 eqD (bin subD' (rd 1) (kD (.int 1)))))))) (retS (kD (.bl false))) nilS)
    (retS (orV (bin leD (bin subD' (rd 0) (kD (.int 1))) (bin subD' (rd 1) (kD (.int 0)))) (bin leD (bin subD' (rd 1) (kD (.int 1))) (bin subD' (rd 0) (kD (.int 0)))))))
def S.are_apart : List Dat → Option Out := fnS 2 2 S.are_apart_b
def S.both_done_b : Rho → Res := (seqS (asgS 3 (rd 1))
    (seqS (asgS 4 (rd 2))
    (seqS (ifS (tst (bin leD (bin subD' (rd 2) (kD (.int 1))) (bin subD' (rd 1) (kD (.int 0))))) (seqS (asgS 3 (rd 2))
    (asgS 4 (rd 1))) nilS)
    (retO (addO (bin addD (bin addD (bin addD (slS (rd 0) noP (prt (bin subD' (rd 3) (kD (.int 0))))) (bin subD' (rd 3) (kD (.int 2)))) (slS (rd 0) (prt (bin subD' (rd 3) (kD (.int 1)))) (prt (bin subD' (rd 4) (kD (.int 0)))))) (bin subD' (rd 4) (kD (.int 2)))) (slS (rd 0) (prt (bin subD' (rd 4) (kD (.int 1)))) noP))))))
def S.both_done : List Dat → Option Out := fnS 5 3 S.both_done_b
def S.put_together_b : Rho → Res := (seqS (ifS (tst (bin eqD (rd 1) (rd 0))) (retO (tupO (consO (appO listO (consA (rd 2) nilA)) (consO (froS (kD .non)) nilO)))) nilS)
    (seqS (ifS (or2 (tst (bin eqD (rd 2) (rd 0))) (tst (bin eqD (rd 1) (rd 2)))) (retO (tupO (consO (appO listO (consA (rd 1) nilA)) (consO (froS (kD .non)) nilO)))) nilS)
    (seqS (asgS 3 (frzS (callS S.block_of (consA (rd 0) (consA (rd 1) nilA)))))
    (seqS (asgS 4 (frzS (callS S.block_of (consA (rd 0) (consA (rd 2) nilA)))))
    (seqS (ifS (tst (frzS (callS S.are_apart (consA (rd 3) (consA (rd 4) nilA))))) (retO (tupO (consO (callS S.both_done (consA (rd 0) (consA (rd 3) (consA (rd 4) nilA)))) (consO (froS (kD .non)) nilO)))) nilS)
    (retO (tupO (consO (appO listO (consA (rd 2) nilA)) (consO (appO listO (consA (rd 1) nilA)) nilO)))))))))
def S.put_together : List Dat → Option Out := fnS 5 3 S.put_together_b
def S_k23._law_cell_at_b : Rho → Res := (seqS (ifS (tst (bin ltD (rd 1) (app lenD (consA (rd 0) nilA)))) (retS (bin subD' (rd 0) (rd 1))) nilS)
    (retS (kD (.int 0))))
def S_k23._law_cell_at : List Dat → Option Out := fnS 2 2 S_k23._law_cell_at_b
def S_k23._law_mixed_b : Rho → Res := (seqS (asgS 2 (bin modD (bin mulD (bin addD (bin addD (bin andD (rd 0) (kD (.int 2147483647))) (bin mulD (kD (.int 7919)) (rd 1))) (kD (.int 1))) (kD (.int 48271))) (kD (.int 2147483647))))
    (seqS (asgS 2 (bin modD (bin mulD (rd 2) (bin addD (bin divD (rd 2) (kD (.int 1009))) (kD (.int 69621)))) (kD (.int 2147483647))))
    (seqS (asgS 2 (bin modD (bin mulD (rd 2) (bin addD (bin divD (rd 2) (kD (.int 1013))) (kD (.int 40692)))) (kD (.int 2147483647))))
    (retS (bin xorD (rd 2) (bin andD (bin shrD (rd 0) (bin addD (bin mulD (kD (.int 31)) (rd 1)) (kD (.int 31)))) (kD (.int 2147483647))))))))
def S_k23._law_mixed : List Dat → Option Out := fnS 3 2 S_k23._law_mixed_b
def S_k23._law_line_b : Rho → Res := (seqS (asgS 2 (kD (.str " !\"#$&'()*+,-./0123456789:;<=>?@ABCDEFGHIJKLMNOPQRSTUVWXYZ[\\]^_`abcdefghijklmnopqrstuvwxyz{|}~")))
    (seqS (asgS 3 (bin modD (frzS (callS S_k23._law_mixed (consA (rd 0) (consA (bin mulD (kD (.int 61)) (rd 1)) nilA)))) (kD (.int 61))))
    (seqS (ifS (tst (bin gtD (bin modD (frzS (callS S_k23._law_mixed (consA (rd 0) (consA (bin addD (kD (.int 305)) (rd 1)) nilA)))) (kD (.int 4))) (kD (.int 0)))) (asgS 3 (bin modD (rd 3) (kD (.int 4)))) nilS)
    (retS (bin joinD (kD (.str "")) (lcS (itR1 (consA (rd 3) nilA)) [4] (hName 4) yes (bin subD' (rd 2) (bin modD (frzS (callS S_k23._law_mixed (consA (rd 0) (consA (bin addD (bin addD (bin mulD (kD (.int 61)) (rd 1)) (kD (.int 1))) (rd 4)) nilA)))) (app lenD (consA (rd 2) nilA))))))))))
def S_k23._law_line : List Dat → Option Out := fnS 5 2 S_k23._law_line_b
def S_k23._law_list_b : Rho → Res := (seqS (asgS 2 (bin modD (frzS (callS S_k23._law_mixed (consA (rd 0) (consA (kD (.int 0)) nilA)))) (kD (.int 21))))
    (seqS (ifS (tst (bin gtD (bin modD (frzS (callS S_k23._law_mixed (consA (rd 0) (consA (kD (.int 1)) nilA)))) (kD (.int 3))) (kD (.int 0)))) (asgS 2 (bin modD (rd 2) (kD (.int 6)))) nilS)
    (retS (lcS (itR1 (consA (rd 2) nilA)) [3] (hName 3) yes (bin subD' (rd 1) (bin modD (frzS (callS S_k23._law_mixed (consA (rd 0) (consA (bin addD (kD (.int 2)) (rd 3)) nilA)))) (kD (.int 5))))))))
def S_k23._law_list : List Dat → Option Out := fnS 4 2 S_k23._law_list_b
def S_k23._law_changed_b : Rho → Res := (seqS (asgS 3 (bin modD (frzS (callS S_k23._law_mixed (consA (rd 1) (consA (kD (.int 1)) nilA)))) (bin addD (app lenD (consA (rd 0) nilA)) (kD (.int 1)))))
    (seqS (asgS 4 (bin addD (rd 3) (bin modD (frzS (callS S_k23._law_mixed (consA (rd 1) (consA (kD (.int 2)) nilA)))) (bin addD (kD (.int 1)) (app minD (consA (kD (.int 4)) (consA (bin subD (app lenD (consA (rd 0) nilA)) (rd 3)) nilA)))))))
    (seqS (asgS 5 (lcS (itR1 (consA (bin modD (frzS (callS S_k23._law_mixed (consA (rd 1) (consA (kD (.int 3)) nilA)))) (kD (.int 4))) nilA)) [6] (hName 6) yes (bin subD' (rd 2) (bin modD (frzS (callS S_k23._law_mixed (consA (rd 1) (consA (bin addD (kD (.int 4)) (rd 6)) nilA)))) (kD (.int 5))))))
    (retS (slS (bin addD (bin addD (slS (rd 0) noP (prt (rd 3))) (rd 5)) (slS (rd 0) (prt (rd 4)) noP)) noP (prt (kD (.int 20))))))))
def S_k23._law_changed : List Dat → Option Out := fnS 7 3 S_k23._law_changed_b
def S_k23._law_drawn_b : Rho → Res := (seqS (asgS 4 (frzS (callS S_k23._law_cell_at (consA (rd 0) (consA (rd 1) nilA)))))
    (seqS (asgS 5 (bin modD (frzS (callS S_k23._law_mixed (consA (frzS (callS S_k23._law_cell_at (consA (rd 0) (consA (kD (.int 1)) nilA)))) (consA (rd 1) nilA)))) (kD (.int 6))))
    (seqS (ifS (tst (bin eqD (rd 5) (kD (.int 0)))) (retS (frzS (callS S_k23._law_list (consA (rd 4) (consA (rd 3) nilA))))) nilS)
    (seqS (ifS (tst (bin eqD (rd 5) (kD (.int 1)))) (retS (app listD (consA (rd 2) nilA))) nilS)
    (seqS (asgS 6 (frzS (callS S_k23._law_changed (consA (rd 2) (consA (rd 4) (consA (rd 3) nilA))))))
    (seqS (ifS (tst (bin ltD (rd 5) (kD (.int 4)))) (asgS 6 (frzS (callS S_k23._law_changed (consA (rd 6) (consA (frzS (callS S_k23._law_cell_at (consA (rd 0) (consA (bin addD (rd 1) (kD (.int 1))) nilA)))) (consA (rd 3) nilA)))))) nilS)
    (retS (rd 6))))))))
def S_k23._law_drawn : List Dat → Option Out := fnS 7 4 S_k23._law_drawn_b
def S_k23._law_middle_b : Rho → Res := (seqS (asgS 2 (kD (.int 0)))
    (seqS (whileS (and2 (tst (bin ltD (rd 2) (app minD (consA (app lenD (consA (rd 0) nilA)) (consA (app lenD (consA (rd 1) nilA)) nilA))))) (tst (bin eqD (bin subD' (rd 0) (rd 2)) (bin subD' (rd 1) (rd 2))))) (asgS 2 (bin addD (rd 2) (kD (.int 1)))) 100000)
    (seqS (asgS 3 (kD (.int 0)))
    (seqS (whileS (and2 (tst (bin ltD (rd 3) (bin subD (app minD (consA (app lenD (consA (rd 0) nilA)) (consA (app lenD (consA (rd 1) nilA)) nilA))) (rd 2)))) (tst (bin eqD (bin subD' (rd 0) (bin subD (un negD (kD (.int 1))) (rd 3))) (bin subD' (rd 1) (bin subD (un negD (kD (.int 1))) (rd 3)))))) (asgS 3 (bin addD (rd 3) (kD (.int 1)))) 100000)
    (retS (slS (rd 1) (prt (rd 2)) (prt (bin subD (app lenD (consA (rd 1) nilA)) (rd 3)))))))))
def S_k23._law_middle : List Dat → Option Out := fnS 4 2 S_k23._law_middle_b
def S_k23._law_stand_in_b : Rho → Res := (seqS (forS (itR1 (consA (bin addD (bin subD (app lenD (consA (rd 0) nilA)) (app lenD (consA (rd 1) nilA))) (kD (.int 1))) nilA)) (hName 2) (ifS (tst (bin eqD (slS (rd 0) (prt (rd 2)) (prt (bin addD (rd 2) (app lenD (consA (rd 1) nilA))))) (rd 1))) (retS (kD (.bl true))) nilS))
    (retS (kD (.bl false))))
def S_k23._law_stand_in : List Dat → Option Out := fnS 3 2 S_k23._law_stand_in_b
def S_k23._law_apart_b : Rho → Res := (seqS (ifS (and2 (tst (bin neD (rd 1) (rd 0))) (not1 (tst (frzS (callS S_k23._law_stand_in (consA (rd 3) (consA (frzS (callS S_k23._law_middle (consA (rd 0) (consA (rd 1) nilA)))) nilA))))))) (retS (kD (.bl false))) nilS)
    (seqS (ifS (and2 (tst (bin neD (rd 1) (rd 0))) (and2 (tst (bin neD (rd 2) (rd 0))) (not1 (tst (frzS (callS S_k23._law_stand_in (consA (rd 3) (consA (frzS (callS S_k23._law_middle (consA (rd 0) (consA (rd 2) nilA)))) nilA)))))))) (retS (kD (.bl false))) nilS)
    (retS (bin eqD (lcS (itS (rd 3)) [4] (hName 4) (and2 (tst (bin ninD (rd 4) (rd 1))) (tst (bin ninD (rd 4) (rd 2)))) (rd 4)) (lstS nilA)))))
def S_k23._law_apart : List Dat → Option Out := fnS 5 4 S_k23._law_apart_b
def S_k23.law_b : Rho → Res := (seqS (asgS 1 (lcS (itR1 (consA (kD (.int 5)) nilA)) [9] (hName 9) yes (frzS (callS S_k23._law_line (consA (frzS (callS S_k23._law_cell_at (consA (rd 0) (consA (kD (.int 6)) nilA)))) (consA (rd 9) nilA))))))
    (seqS (asgS 2 (frzS (callS S_k23._law_list (consA (frzS (callS S_k23._law_cell_at (consA (rd 0) (consA (kD (.int 0)) nilA)))) (consA (rd 1) nilA)))))
    (seqS (asgS 3 (frzS (callS S_k23._law_drawn (consA (rd 0) (consA (kD (.int 2)) (consA (rd 2) (consA (rd 1) nilA)))))))
    (seqS (asgS 4 (frzS (callS S_k23._law_drawn (consA (rd 0) (consA (kD (.int 4)) (consA (rd 2) (consA (rd 1) nilA)))))))
    (seqS (ifS (tst (bin eqD (bin modD (frzS (callS S_k23._law_mixed (consA (frzS (callS S_k23._law_cell_at (consA (rd 0) (consA (kD (.int 1)) nilA)))) (consA (kD (.int 0)) nilA)))) (kD (.int 9))) (kD (.int 4)))) (asgS 4 (app listD (consA (rd 3) nilA))) nilS)
    (seqS (asgT (hTup 2 (hCons (hName 5) (hCons (hName 6) hNil))) (frzS (callS S.put_together (consA (app listD (consA (rd 2) nilA)) (consA (app listD (consA (rd 3) nilA)) (consA (app listD (consA (rd 4) nilA)) nilA))))))
    (seqS (asgT (hTup 2 (hCons (hName 7) (hCons (hName 8) hNil))) (frzS (callS S.put_together (consA (app listD (consA (rd 2) nilA)) (consA (app listD (consA (rd 4) nilA)) (consA (app listD (consA (rd 3) nilA)) nilA))))))
    (seqS (ifS (tst (bin neD (noneS (rd 6)) (noneS (rd 8)))) (retS (kD (.bl false))) nilS)
    (seqS (ifS (tst (someS (rd 6))) (retS (andV (bin eqD (rd 6) (rd 3)) (andV (bin eqD (rd 5) (rd 4)) (andV (bin eqD (rd 8) (rd 4)) (bin eqD (rd 7) (rd 3)))))) nilS)
    (retS (andV (bin eqD (rd 5) (rd 7)) (frzS (callS S_k23._law_apart (consA (rd 2) (consA (rd 3) (consA (rd 4) (consA (rd 5) nilA)))))))))))))))))
def S_k23.law : List Dat → Option Out := fnS 10 1 S_k23.law_b
end
end Pq

namespace Pq
open PySem PySem.Spec PyProof.Rows L2
noncomputable section

/-! ### the block of a text against its base -/
/-- how many first lines are alike -/
def alk : List Str → List Str → Nat
  | x :: xs, y :: ys => if x = y then alk xs ys + 1 else 0
  | _, _ => 0
theorem alk_le : ∀ xs ys : List Str, alk xs ys ≤ min xs.length ys.length
  | [], _ => by simp [alk]
  | _ :: _, [] => by simp [alk]
  | x :: xs, y :: ys => by
    rw [alk]
    split
    · have := alk_le xs ys
      simp only [List.length_cons]
      omega
    · exact Nat.zero_le _
theorem alk_take : ∀ xs ys : List Str, xs.take (alk xs ys) = ys.take (alk xs ys)
  | [], _ => by simp [alk]
  | _ :: _, [] => by simp [alk]
  | x :: xs, y :: ys => by
    rw [alk]
    split
    · rename_i h
      rw [List.take_succ_cons, List.take_succ_cons, alk_take xs ys, h]
    · rfl
theorem alk_at : ∀ (xs ys : List Str) (k : Nat), k < alk xs ys → xs[k]? = ys[k]?
  | [], _, _, h => by simp [alk] at h
  | _ :: _, [], _, h => by simp [alk] at h
  | x :: xs, y :: ys, k, h => by
    rw [alk] at h
    split at h
    · rename_i e
      cases k with
      | zero => simp [e]
      | succ k => simpa using alk_at xs ys k (by omega)
    · omega
theorem alk_end : ∀ (xs ys : List Str), alk xs ys < min xs.length ys.length → xs[alk xs ys]? ≠ ys[alk xs ys]?
  | [], _, h => by simp at h
  | _ :: _, [], h => by simp at h
  | x :: xs, y :: ys, h => by
    rw [alk] at h ⊢
    split at h
    · rename_i e
      rw [if_pos e]
      have := alk_end xs ys (by simp only [List.length_cons] at h; omega)
      simpa using this
    · rename_i e
      rw [if_neg e]
      simpa using e
/-- .. at most so many -/
def alm (xs ys : List Str) (m : Nat) : Nat := min (alk xs ys) m
theorem alike_while {xs ys : List Str} {m : Nat} (hm : m ≤ min xs.length ys.length) : ∀ (n k : Nat), k ≤ alm xs ys m → alm xs ys m - k < n →
    whileS (and2 (tst (bin ltD (rd 3) (rd 2))) (tst (bin eqD (bin subD' (rd 0) (rd 3)) (bin subD' (rd 1) (rd 3))))) (asgS 3 (bin plusD (rd 3) (kD (.int 1)))) n [some (.fro (.lst (txs xs))), some (.fro (.lst (txs ys))), some (.fro (.int m)), some (.fro (.int k))] = .nx [some (.fro (.lst (txs xs))), some (.fro (.lst (txs ys))), some (.fro (.int m)), some (.fro (.int (alm xs ys m)))] := by
  intro n
  induction n with
  | zero => intro k _ h; omega
  | succ n ih =>
    intro k hk hn
    rw [whileS]
    by_cases hkm : k < m
    · have h1 : k < xs.length := by omega
      have h2 : k < ys.length := by omega
      have ex := at_txs h1
      have ey := at_txs h2
      by_cases e : xs[k] = ys[k]
      · have hlt : k < alm xs ys m := by
          rcases Nat.lt_or_ge k (alm xs ys m) with h | h
          · exact h
          · exfalso
            have : alk xs ys = k := by unfold alm at hk h; omega
            exact alk_end xs ys (by omega) (by rw [this, List.getElem?_eq_getElem h1, List.getElem?_eq_getElem h2, e])
        simp [ex, ey, e, hkm]
        have := ih (k + 1) (by omega) (by omega)
        simpa using this
      · have hlt : k = alm xs ys m := by
          rcases Nat.lt_or_ge k (alk xs ys) with h | h
          · exfalso
            have := alk_at xs ys k h
            rw [List.getElem?_eq_getElem h1, List.getElem?_eq_getElem h2] at this
            exact e (Option.some.inj this)
          · unfold alm at hk ⊢; omega
        simp [ex, ey, e, hkm]
        exact_mod_cast hlt
    · have hlt : k = alm xs ys m := by unfold alm at hk ⊢; omega
      simp [hkm]
      exact_mod_cast hlt
theorem alike_lines_is {xs ys : List Str} {m : Nat} (hm : m ≤ min xs.length ys.length) (hz : m < 100000) : S.alike_lines [.lst (txs xs), .lst (txs ys), .int m] = some (.ok (.fro (.int (alm xs ys m)))) := by
  have := alike_while hm 100000 0 (Nat.zero_le _) (by unfold alm; omega)
  simp at this
  simp [S.alike_lines, S.alike_lines_b, this]

/-- the block: start, stop, lines -/
def bkS (xs ys : List Str) : Nat := alk xs ys
def bkB (xs ys : List Str) : Nat := alm xs.reverse ys.reverse (min xs.length ys.length - alk xs ys)
def bkL (xs ys : List Str) : List Str := (ys.take (ys.length - bkB xs ys)).drop (bkS xs ys)
theorem bkS_le (xs ys : List Str) : bkS xs ys ≤ min xs.length ys.length := alk_le xs ys
theorem bkB_le (xs ys : List Str) : bkB xs ys ≤ min xs.length ys.length - bkS xs ys := by unfold bkB alm bkS; omega
theorem block_of_is {xs ys : List Str} (hx : xs.length < 100000) (hy : ys.length < 100000) : S.block_of [.lst (txs xs), .lst (txs ys)] = some (.ok (.tp [.fro (.int (bkS xs ys)), .fro (.int ((xs.length - bkB xs ys : Nat) : Int)), .ol ((txs (bkL xs ys)).map SV.fro)])) := by
  have l1 := alk_le xs ys
  have e1 : S.alike_lines [.lst (txs xs), .lst (txs ys), .int ((min xs.length ys.length : Nat) : Int)] = some (.ok (.fro (.int (alk xs ys)))) := by
    rw [alike_lines_is (Nat.le_refl _) (by omega)]
    unfold alm
    rw [Nat.min_eq_left l1]
  have e2 : S.alike_lines [.lst (txs xs.reverse), .lst (txs ys.reverse), .int (((min xs.length ys.length : Nat) : Int) - (alk xs ys : Nat))] = some (.ok (.fro (.int (bkB xs ys)))) := by
    have : ((min xs.length ys.length : Nat) : Int) - (alk xs ys : Nat) = ((min xs.length ys.length - alk xs ys : Nat) : Int) := by omega
    rw [this, alike_lines_is (by rw [List.length_reverse, List.length_reverse]; omega) (by omega)]
    rfl
  have l2 := bkB_le xs ys
  have c1 : ((xs.length : Nat) : Int) - (bkB xs ys : Nat) = ((xs.length - bkB xs ys : Nat) : Int) := by omega
  have c2 : ((ys.length : Nat) : Int) - (bkB xs ys : Nat) = ((ys.length - bkB xs ys : Nat) : Int) := by omega
  have k1 : cut (txs ys) (some ((alk xs ys : Nat) : Int)) (some ((ys.length - bkB xs ys : Nat) : Int)) = txs (bkL xs ys) := by
    rw [cut_two' _ ⟨by omega, by omega⟩, Int.toNat_natCast, Int.toNat_natCast]
    rfl
  simp [S.block_of, S.block_of_b, e1, e2, frz, c1, c2, k1, -cut_two']
  rfl
theorem app_bk (xs ys : List Str) : xs.take (bkS xs ys) ++ bkL xs ys ++ xs.drop (xs.length - bkB xs ys) = ys := by
  have l1 := bkS_le xs ys
  have l2 := bkB_le xs ys
  have h1 : xs.take (bkS xs ys) = ys.take (bkS xs ys) := alk_take xs ys
  have h2 : xs.drop (xs.length - bkB xs ys) = ys.drop (ys.length - bkB xs ys) := by
    have := alk_take xs.reverse ys.reverse
    have h3 : xs.reverse.take (bkB xs ys) = ys.reverse.take (bkB xs ys) := by
      have q := congrArg (List.take (bkB xs ys)) this
      rw [List.take_take, List.take_take] at q
      have : min (bkB xs ys) (alk xs.reverse ys.reverse) = bkB xs ys := by unfold bkB alm; omega
      rwa [this] at q
    rw [List.take_reverse, List.take_reverse] at h3
    exact List.reverse_inj.mp h3
  rw [h1, h2]
  unfold bkL
  have : ys.take (bkS xs ys) = (ys.take (ys.length - bkB xs ys)).take (bkS xs ys) := by
    rw [List.take_take]
    congr 1
    omega
  rw [this, List.take_append_drop, List.take_append_drop]

theorem bk_stop {xs ys : List Str} (h : bkS xs ys + bkB xs ys ≠ min xs.length ys.length) : xs[xs.length - bkB xs ys - 1]? ≠ ys[ys.length - bkB xs ys - 1]? := by
  have l1 := bkS_le xs ys
  have l2 := bkB_le xs ys
  have e : bkB xs ys = alk xs.reverse ys.reverse := by
    have : bkB xs ys = min (alk xs.reverse ys.reverse) (min xs.length ys.length - bkS xs ys) := rfl
    omega
  have := alk_end xs.reverse ys.reverse (by rw [← e, List.length_reverse, List.length_reverse]; omega)
  rw [← e, List.getElem?_reverse (by omega), List.getElem?_reverse (by omega)] at this
  have q1 : xs.length - 1 - bkB xs ys = xs.length - bkB xs ys - 1 := by omega
  have q2 : ys.length - 1 - bkB xs ys = ys.length - bkB xs ys - 1 := by omega
  rw [q1, q2] at this
  exact this
theorem alk_self : ∀ xs : List Str, alk xs xs = xs.length
  | [] => rfl
  | x :: xs => by rw [alk, if_pos rfl, alk_self xs, List.length_cons]
/-- the block as it is handed on -/
def bkD (xs ys : List Str) : Dat := .tup [.int (bkS xs ys), .int ((xs.length - bkB xs ys : Nat) : Int), .lst (txs (bkL xs ys))]
def bkV (xs ys : List Str) : SV := .tp [.fro (.int (bkS xs ys)), .fro (.int ((xs.length - bkB xs ys : Nat) : Int)), .ol ((txs (bkL xs ys)).map SV.fro)]
theorem frz_bk (xs ys : List Str) : frz (bkV xs ys) = bkD xs ys := by
  simp [bkV, bkD, frz, frzs, frzs_fro]
theorem bkL_le (xs ys : List Str) : (bkL xs ys).length ≤ ys.length := by
  unfold bkL
  rw [List.length_drop, List.length_take]
  omega
/-! ### put together -/
def bkT (s e : Nat) (l : List Str) : Dat := .tup [.int s, .int e, .lst (txs l)]
def aprt (s1 e1 s2 e2 : Nat) : Bool := !decide (s1 = e1 ∧ e1 = s2 ∧ s2 = e2) && (decide (e1 ≤ s2) || decide (e2 ≤ s1))
def bothL (xs : List Str) (s1 e1 : Nat) (l1 : List Str) (s2 e2 : Nat) (l2 : List Str) : List Str := xs.take s1 ++ l1 ++ (xs.take s2).drop e1 ++ l2 ++ xs.drop e2
def bothD (xs : List Str) (s1 e1 : Nat) (l1 : List Str) (s2 e2 : Nat) (l2 : List Str) : List Str := if e2 ≤ s1 then bothL xs s2 e2 l2 s1 e1 l1 else bothL xs s1 e1 l1 s2 e2 l2
theorem apart_is (s1 e1 s2 e2 : Nat) (l1 l2 : List Str) : S.are_apart [bkT s1 e1 l1, bkT s2 e2 l2] = some (.ok (.fro (.bl (aprt s1 e1 s2 e2)))) := by
  by_cases h1 : s1 = e1
  · by_cases h2 : e1 = s2
    · by_cases h3 : s2 = e2
      · simp [S.are_apart, S.are_apart_b, bkT, aprt, h1, h2, h3]
      · by_cases h4 : e1 ≤ s2
        · simp [S.are_apart, S.are_apart_b, bkT, aprt, h1, h2, h3, h4]
        · simp [S.are_apart, S.are_apart_b, bkT, aprt, h1, h2, h3, h4]
    · by_cases h4 : e1 ≤ s2
      · simp [S.are_apart, S.are_apart_b, bkT, aprt, h1, h2, h4]
      · simp [S.are_apart, S.are_apart_b, bkT, aprt, h1, h2, h4]
  · by_cases h4 : e1 ≤ s2
    · simp [S.are_apart, S.are_apart_b, bkT, aprt, h1, h4]
    · simp [S.are_apart, S.are_apart_b, bkT, aprt, h1, h4]
theorem both_is (xs : List Str) (s1 e1 : Nat) (l1 : List Str) (s2 e2 : Nat) (l2 : List Str) (h0 : xs.length ≤ 1000) (h1 : l1.length ≤ 1000) (h2 : l2.length ≤ 1000) : S.both_done [.lst (txs xs), bkT s1 e1 l1, bkT s2 e2 l2] = some (.ok (.ol ((txs (bothD xs s1 e1 l1 s2 e2 l2)).map SV.fro))) := by
  have z : ∀ (n m : Nat), min n xs.length ≤ 1000 := fun n m => by omega
  have add : ∀ a b : List Str, a.length ≤ 4000 → b.length ≤ 1000 → addD (.lst (txs a)) (.lst (txs b)) = some (.lst (txs (a ++ b))) := fun a b ha hb => by
    rw [add_lst (by rw [txs_len, txs_len, size_is]; omega), txs_app]
  have addo : ∀ a b : List Str, a.length ≤ 4000 → b.length ≤ 1000 → addOD (.lst (txs a)) (.lst (txs b)) = some (.ol ((txs (a ++ b)).map SV.fro)) := fun a b ha hb => by
    unfold addOD
    simp only [txs_len, size_is]
    rw [ifp (by omega), txs_app]
  have key : ∀ (s1 e1 : Nat) (l1 : List Str) (s2 e2 : Nat) (l2 : List Str) (x1 x2 : Option SV), l1.length ≤ 1000 → l2.length ≤ 1000 → retO (addO (bin addD (bin addD (bin addD (slS (rd 0) noP (prt (bin subD' (rd 3) (kD (.int 0))))) (bin subD' (rd 3) (kD (.int 2)))) (slS (rd 0) (prt (bin subD' (rd 3) (kD (.int 1)))) (prt (bin subD' (rd 4) (kD (.int 0)))))) (bin subD' (rd 4) (kD (.int 2)))) (slS (rd 0) (prt (bin subD' (rd 4) (kD (.int 1)))) noP)) [some (.fro (.lst (txs xs))), x1, x2, some (.fro (bkT s1 e1 l1)), some (.fro (bkT s2 e2 l2))] = .ret (.ol ((txs (bothL xs s1 e1 l1 s2 e2 l2)).map SV.fro)) := fun s1 e1 l1 s2 e2 l2 x1 x2 h1 h2 => by
    have a1 := add (xs.take s1) l1 (by rw [List.length_take]; omega) h1
    have a2 := add (xs.take s1 ++ l1) ((xs.take s2).drop e1) (by rw [List.length_append, List.length_take]; omega) (by rw [List.length_drop, List.length_take]; omega)
    have a3 := add (xs.take s1 ++ l1 ++ (xs.take s2).drop e1) l2 (by rw [List.length_append, List.length_append, List.length_drop, List.length_take, List.length_take]; omega) h2
    have a4 := addo (xs.take s1 ++ l1 ++ (xs.take s2).drop e1 ++ l2) (xs.drop e2) (by rw [List.length_append, List.length_append, List.length_append, List.length_drop, List.length_take, List.length_take]; omega) (by rw [List.length_drop]; omega)
    simp only [m_retO, addO, m_bin, m_slS, m_noP, m_prt, m_rd0, m_rdS, ob_some, m_kD, bkT, ix_tup, at0, at1, at2, pi_int, sl_lst, cut_to' _ (Int.natCast_nonneg s1), cut_two' _ ⟨Int.natCast_nonneg e1, Int.natCast_nonneg s2⟩, cut_from' _ (Int.natCast_nonneg e2), Int.toNat_natCast, a1, a2, a3, a4, nd_some]
    rfl
  by_cases h : e2 ≤ s1
  · have k := key s2 e2 l2 s1 e1 l1 (some (.fro (bkT s1 e1 l1))) (some (.fro (bkT s2 e2 l2))) h2 h1
    have t1 : subD' (bkT s2 e2 l2) (.int 1) = some (.int e2) := by simp [bkT]
    have t2 : subD' (bkT s1 e1 l1) (.int 0) = some (.int s1) := by simp [bkT]
    have d : bothD xs s1 e1 l1 s2 e2 l2 = bothL xs s2 e2 l2 s1 e1 l1 := if_pos h
    rw [d]
    simp [S.both_done, S.both_done_b, t1, t2, h, k, -m_retO]
  · have k := key s1 e1 l1 s2 e2 l2 (some (.fro (bkT s1 e1 l1))) (some (.fro (bkT s2 e2 l2))) h1 h2
    have t1 : subD' (bkT s2 e2 l2) (.int 1) = some (.int e2) := by simp [bkT]
    have t2 : subD' (bkT s1 e1 l1) (.int 0) = some (.int s1) := by simp [bkT]
    have d : bothD xs s1 e1 l1 s2 e2 l2 = bothL xs s1 e1 l1 s2 e2 l2 := if_neg h
    rw [d]
    simp [S.both_done, S.both_done_b, t1, t2, h, k, -m_retO]
/-- the lines and what lies beside -/
def ptT (b o n : List Str) : List Str × Option (List Str) :=
  if o = b then (n, none) else if n = b ∨ o = n then (o, none)
  else if aprt (bkS b o) (b.length - bkB b o) (bkS b n) (b.length - bkB b n) = true then (bothD b (bkS b o) (b.length - bkB b o) (bkL b o) (bkS b n) (b.length - bkB b n) (bkL b n), none)
  else (n, some o)
def ptV : List Str × Option (List Str) → SV
  | (l, none) => .tp [.ol ((txs l).map SV.fro), .fro .non]
  | (l, some w) => .tp [.ol ((txs l).map SV.fro), .ol ((txs w).map SV.fro)]
def ptD : List Str × Option (List Str) → Dat
  | (l, none) => .tup [.lst (txs l), .non]
  | (l, some w) => .tup [.lst (txs l), .lst (txs w)]
theorem frz_pt (x : List Str × Option (List Str)) : frz (ptV x) = ptD x := by
  obtain ⟨l, w⟩ := x
  cases w with
  | none => simp [ptV, ptD, frz, frzs, frzs_fro]
  | some w => simp [ptV, ptD, frz, frzs, frzs_fro]
theorem put_is (b o n : List Str) (hb : b.length ≤ 1000) (ho : o.length ≤ 1000) (hn : n.length ≤ 1000) : S.put_together [.lst (txs b), .lst (txs o), .lst (txs n)] = some (.ok (ptV (ptT b o n))) := by
  by_cases h1 : o = b
  · have : ptT b o n = (n, none) := if_pos h1
    rw [this]
    simp [S.put_together, S.put_together_b, h1, ptV]
  by_cases h2 : n = b ∨ o = n
  · have : ptT b o n = (o, none) := by unfold ptT; rw [if_neg h1, if_pos h2]
    rw [this]
    by_cases h3 : n = b
    · simp [S.put_together, S.put_together_b, h1, h3, ptV]
    · have h4 : o = n := h2.resolve_left h3
      subst h4
      simp [S.put_together, S.put_together_b, h1, ptV]
  have h3 : ¬ n = b := fun z => h2 (.inl z)
  have h4 : ¬ o = n := fun z => h2 (.inr z)
  have k1 : S.block_of [.lst (txs b), .lst (txs o)] = some (.ok (bkV b o)) := block_of_is (by omega) (by omega)
  have k2 : S.block_of [.lst (txs b), .lst (txs n)] = some (.ok (bkV b n)) := block_of_is (by omega) (by omega)
  have f1 : frz (bkV b o) = bkT (bkS b o) (b.length - bkB b o) (bkL b o) := frz_bk b o
  have f2 : frz (bkV b n) = bkT (bkS b n) (b.length - bkB b n) (bkL b n) := frz_bk b n
  have k3 := apart_is (bkS b o) (b.length - bkB b o) (bkS b n) (b.length - bkB b n) (bkL b o) (bkL b n)
  have q1 := bkL_le b o
  have q2 := bkL_le b n
  have k4 := both_is b (bkS b o) (b.length - bkB b o) (bkL b o) (bkS b n) (b.length - bkB b n) (bkL b n) hb (by omega) (by omega)
  cases h5 : aprt (bkS b o) (b.length - bkB b o) (bkS b n) (b.length - bkB b n) with
  | true =>
    have : ptT b o n = (bothD b (bkS b o) (b.length - bkB b o) (bkL b o) (bkS b n) (b.length - bkB b n) (bkL b n), none) := by unfold ptT; rw [if_neg h1, if_neg h2, if_pos h5]
    rw [this]
    rw [h5] at k3
    simp [S.put_together, S.put_together_b, h1, h3, h4, k1, k2, f1, f2, k3, k4, frz, ptV]
  | false =>
    have : ptT b o n = (n, some o) := by unfold ptT; rw [if_neg h1, if_neg h2, if_neg (by rw [h5]; decide)]
    rw [this]
    rw [h5] at k3
    simp [S.put_together, S.put_together_b, h1, h3, h4, k1, k2, f1, f2, k3, frz, ptV]

/-! ### the law's own things -/
theorem k23_cell (ns : List Int) (k : Int) (hk : 0 ≤ k) : ∃ c : Int, S_k23._law_cell_at [.scr (ns.map Dat.int), .int k] = some (.ok (.fro (.int c))) := by
  obtain ⟨n, rfl⟩ := Int.eq_ofNat_of_zero_le hk
  by_cases h : n < ns.length
  · refine ⟨ns[n], ?_⟩
    have e : atI (ns.map Dat.int) (n : Int) = some (.int ns[n]) := by rw [atI_nat]; simp [h]
    simp [S_k23._law_cell_at, S_k23._law_cell_at_b, h, e]
  · refine ⟨0, ?_⟩
    simp [S_k23._law_cell_at, S_k23._law_cell_at_b, h]
theorem k23_mixed (c k : Int) (hk : 0 ≤ k) : ∃ m : Int, S_k23._law_mixed [.int c, .int k] = some (.ok (.fro (.int m))) := by
  generalize h0 : Builtin.bitAnd c 2147483647 = a
  have b1 := Int.emod_nonneg ((a + 7919 * k + 1) * 48271) (b := 2147483647) (by omega)
  have b2 := Int.emod_lt_of_pos ((a + 7919 * k + 1) * 48271) (b := 2147483647) (by omega)
  generalize h : (a + 7919 * k + 1) * 48271 % 2147483647 = x at b1 b2
  have b3 := Int.emod_nonneg (x * (x / 1009 + 69621)) (b := 2147483647) (by omega)
  have b4 := Int.emod_lt_of_pos (x * (x / 1009 + 69621)) (b := 2147483647) (by omega)
  generalize h2 : x * (x / 1009 + 69621) % 2147483647 = y at b3 b4
  have m1 : mulD (.int x) (.int (x / 1009 + 69621)) = some (.int (x * (x / 1009 + 69621))) := mul_int (.inl (by omega))
  have m2 : mulD (.int y) (.int (y / 1013 + 40692)) = some (.int (y * (y / 1013 + 40692))) := mul_int (.inl (by omega))
  have m3 : shrD (.int c) (.int (31 * k + 31)) = some (.int (c / 2 ^ (31 * k + 31).toNat)) := shr_int (by omega)
  exact ⟨_, by simp [S_k23._law_mixed, S_k23._law_mixed_b, h0, h, m1, h2, m2, m3]; rfl⟩
def k23_signs : Str := " !\"#$&'()*+,-./0123456789:;<=>?@ABCDEFGHIJKLMNOPQRSTUVWXYZ[\\]^_`abcdefghijklmnopqrstuvwxyz{|}~"
theorem k23_len : k23_signs.length = 94 := by decide +kernel
theorem k23_sign (i : Int) (h : 0 ≤ i ∧ i < 94) : ∃ s : Str, subD' (.str k23_signs) (.int i) = some (.str s) ∧ s.length = 1 := by
  obtain ⟨n, rfl⟩ := Int.eq_ofNat_of_zero_le h.1
  have hl : n < k23_signs.cps.toList.length := by
    have : k23_signs.cps.toList.length = 94 := k23_len
    omega
  refine ⟨⟨#[k23_signs.cps.toList[n]]⟩, ?_, rfl⟩
  rw [ix_str _ (by rw [k23_len]; omega)]
  show (atI k23_signs.cps.toList (n : Int)).map _ = _
  rw [atI_nat, List.getElem?_eq_getElem hl]
  rfl
theorem k23_line (c j : Int) (hj : 0 ≤ j) : ∃ s : Str, S_k23._law_line [.int c, .int j] = some (.ok (.fro (.str s))) := by
  obtain ⟨m1, h1⟩ := k23_mixed c (61 * j) (by omega)
  obtain ⟨m2, h2⟩ := k23_mixed c (305 + j) (by omega)
  have b1 := Int.emod_nonneg m1 (b := 61) (by omega)
  have b2 := Int.emod_lt_of_pos m1 (b := 61) (by omega)
  have key : ∀ (n : Nat) (many : Int), ∃ ss : List Str, lcGo (hName 4) yes (bin subD' (rd 2) (bin modD (frzS (callS S_k23._law_mixed (consA (rd 0) (consA (bin addD (bin addD (bin mulD (kD (.int 61)) (rd 1)) (kD (.int 1))) (rd 4)) nilA)))) (app lenD (consA (rd 2) nilA)))) [some (.fro (.int c)), some (.fro (.int j)), some (.fro (.str k23_signs)), some (.fro (.int many)), none] (rng 0 n) = some (txs ss) ∧ ss.length = (rng 0 n).length ∧ ∀ s ∈ ss, s.length = 1 := fun n many => lcGo_strsP _ fun d hd => by
    obtain ⟨i, hi, rfl⟩ := mem_rng hd
    obtain ⟨m, hm⟩ := k23_mixed c (61 * j + 1 + (0 + (i : Int))) (by omega)
    obtain ⟨s, q1, q2⟩ := k23_sign (m % 94) ⟨Int.emod_nonneg _ (by omega), Int.emod_lt_of_pos _ (by omega)⟩
    refine ⟨_, s, rfl, ?_, q2⟩
    have hl : lenD [.str k23_signs] = some (.int 94) := by rw [len_str (by rw [k23_len]; omega), k23_len]; rfl
    simp at hm
    simp [hm, hl, q1, frz]
  have fin : ∀ (many : Int), 0 ≤ many ∧ many ≤ 60 → ∃ s : Str, bin joinD (kD (.str "")) (lcS (itR1 (consA (rd 3) nilA)) [4] (hName 4) yes (bin subD' (rd 2) (bin modD (frzS (callS S_k23._law_mixed (consA (rd 0) (consA (bin addD (bin addD (bin mulD (kD (.int 61)) (rd 1)) (kD (.int 1))) (rd 4)) nilA)))) (app lenD (consA (rd 2) nilA))))) [some (.fro (.int c)), some (.fro (.int j)), some (.fro (.str k23_signs)), some (.fro (.int many)), none] = some (.str s) := fun many hm => by
    obtain ⟨ss, e, l, o⟩ := key many.toNat many
    rw [rng_len] at l
    have hr : r1 [.int many] = some (rng 0 many.toNat) := r1_int (by omega)
    have hl : (rng 0 many.toNat).length ≤ 16777216 := by rw [rng_len]; omega
    have hj := join_txs (a := "") (ys := ss) (by rw [sum_ones o, show ("" : Str).length = 0 from rfl]; omega)
    exact ⟨_, by simp [hr, hl, wipeR, e, hj]; rfl⟩
  have hs : (" !\"#$&'()*+,-./0123456789:;<=>?@ABCDEFGHIJKLMNOPQRSTUVWXYZ[\\]^_`abcdefghijklmnopqrstuvwxyz{|}~" : Str) = k23_signs := rfl
  by_cases h : 0 < m2 % 4
  · obtain ⟨s, e⟩ := fin (m1 % 61 % 4) ⟨Int.emod_nonneg _ (by omega), by omega⟩
    exact ⟨s, by simp [S_k23._law_line, S_k23._law_line_b, hs, h1, h2, frz, h, e, -m_bin, m_bin modD, m_bin gtD, m_bin mulD, m_bin addD]⟩
  · obtain ⟨s, e⟩ := fin (m1 % 61) ⟨b1, by omega⟩
    exact ⟨s, by simp [S_k23._law_line, S_k23._law_line_b, hs, h1, h2, frz, h, e, -m_bin, m_bin modD, m_bin gtD, m_bin mulD, m_bin addD]⟩
theorem k23_pick {pool : List Str} (hp : pool.length = 5) (m : Int) : ∃ s : Str, atI (txs pool) (m % 5) = some (.str s) := by
  have b1 := Int.emod_nonneg m (b := 5) (by omega)
  have b2 := Int.emod_lt_of_pos m (b := 5) (by omega)
  exact ⟨_, at_txs' (n := (m % 5).toNat) (by omega) (by omega)⟩
theorem k23_list (c : Int) {pool : List Str} (hp : pool.length = 5) : ∃ ss : List Str, ss.length ≤ 20 ∧ S_k23._law_list [.int c, .lst (txs pool)] = some (.ok (.fro (.lst (txs ss)))) := by
  obtain ⟨m1, h1⟩ := k23_mixed c 0 (by omega)
  obtain ⟨m2, h2⟩ := k23_mixed c 1 (by omega)
  have b1 := Int.emod_nonneg m1 (b := 21) (by omega)
  have b2 := Int.emod_lt_of_pos m1 (b := 21) (by omega)
  have key : ∀ (n : Nat) (many : Int), ∃ ss : List Str, lcGo (hName 3) yes (bin subD' (rd 1) (bin modD (frzS (callS S_k23._law_mixed (consA (rd 0) (consA (bin addD (kD (.int 2)) (rd 3)) nilA)))) (kD (.int 5)))) [some (.fro (.int c)), some (.fro (.lst (txs pool))), some (.fro (.int many)), none] (rng 0 n) = some (txs ss) ∧ ss.length = (rng 0 n).length := fun n many => lcGo_txs _ fun d hd => by
    obtain ⟨i, hi, rfl⟩ := mem_rng hd
    obtain ⟨m, hm⟩ := k23_mixed c (2 + (0 + (i : Int))) (by omega)
    obtain ⟨s, q1⟩ := k23_pick hp m
    refine ⟨_, s, rfl, ?_⟩
    simp at hm
    simp [hm, q1, frz]
  by_cases h : 0 < m2 % 3
  · obtain ⟨ss, e, l⟩ := key (m1 % 21 % 6).toNat (m1 % 21 % 6)
    rw [rng_len] at l
    refine ⟨ss, by omega, ?_⟩
    have hr : r1 [.int (m1 % 21 % 6)] = some (rng 0 (m1 % 21 % 6).toNat) := r1_int (by omega)
    have hl : (rng 0 (m1 % 21 % 6).toNat).length ≤ 16777216 := by rw [rng_len]; omega
    simp [S_k23._law_list, S_k23._law_list_b, h1, h2, frz, h, hr, hl, wipeR, e]
  · obtain ⟨ss, e, l⟩ := key (m1 % 21).toNat (m1 % 21)
    rw [rng_len] at l
    refine ⟨ss, by omega, ?_⟩
    have hr : r1 [.int (m1 % 21)] = some (rng 0 (m1 % 21).toNat) := r1_int (by omega)
    have hl : (rng 0 (m1 % 21).toNat).length ≤ 16777216 := by rw [rng_len]; omega
    simp [S_k23._law_list, S_k23._law_list_b, h1, h2, frz, h, hr, hl, wipeR, e]
theorem k23_changed {ss : List Str} (c : Int) {pool : List Str} (hl : ss.length ≤ 20) (hp : pool.length = 5) : ∃ ss' : List Str, ss'.length ≤ 20 ∧ S_k23._law_changed [.lst (txs ss), .int c, .lst (txs pool)] = some (.ok (.fro (.lst (txs ss')))) := by
  obtain ⟨m1, h1⟩ := k23_mixed c 1 (by omega)
  obtain ⟨m2, h2⟩ := k23_mixed c 2 (by omega)
  obtain ⟨m3, h3⟩ := k23_mixed c 3 (by omega)
  have s1 := Int.emod_nonneg m1 (b := (ss.length : Int) + 1) (by omega)
  have s2 := Int.emod_lt_of_pos m1 (b := (ss.length : Int) + 1) (by omega)
  have d1 : modD (.int m1) (.int ((ss.length : Int) + 1)) = some (.int (m1 % ((ss.length : Int) + 1))) := mod_int (by omega)
  generalize m1 % ((ss.length : Int) + 1) = st at s1 s2 d1
  have d2 : modD (.int m2) (.int (1 + min 4 ((ss.length : Int) - st))) = some (.int (m2 % (1 + min 4 ((ss.length : Int) - st)))) := mod_int (by omega)
  generalize m2 % (1 + min 4 ((ss.length : Int) - st)) = ex at d2
  have t1 := Int.emod_nonneg m3 (b := 4) (by omega)
  have t2 := Int.emod_lt_of_pos m3 (b := 4) (by omega)
  generalize hq : m3 % 4 = p at t1 t2
  have r_ : r1 [.int p] = some (rng 0 p.toNat) := r1_int (by omega)
  have l_ : (rng 0 p.toNat).length ≤ 16777216 := by rw [rng_len]; omega
  obtain ⟨put, e1, l1⟩ := lcGo_txs (h := hName 6) (f := bin subD' (rd 2) (bin modD (frzS (callS S_k23._law_mixed (consA (rd 1) (consA (bin addD (kD (.int 4)) (rd 6)) nilA)))) (kD (.int 5)))) (ρ := [some (.fro (.lst (txs ss))), some (.fro (.int c)), some (.fro (.lst (txs pool))), some (.fro (.int st)), some (.fro (.int (st + ex))), none, none]) (rng 0 p.toNat) fun d hd => by
    obtain ⟨i, hi, rfl⟩ := mem_rng hd
    obtain ⟨m, hm⟩ := k23_mixed c (4 + (0 + (i : Int))) (by omega)
    obtain ⟨s, q1⟩ := k23_pick hp m
    refine ⟨_, s, rfl, ?_⟩
    simp at hm
    simp [hm, q1, frz]
  rw [rng_len] at l1
  obtain ⟨pre, c2, cl2⟩ := cut_txs ss none (some st)
  obtain ⟨post, c3, cl3⟩ := cut_txs ss (some (st + ex)) none
  have q2 : pre.length + put.length + post.length ≤ 16777216 := by omega
  have q3 : pre.length + put.length ≤ 16777216 := by omega
  refine ⟨(pre ++ put ++ post).take 20, by rw [List.length_take]; omega, ?_⟩
  simp [S_k23._law_changed, S_k23._law_changed_b, h1, h2, h3, d1, d2, hq, r_, l_, wipeR, e1, c2, c3, frz, q2, q3]
theorem k23_drawn (ns : List Int) {b pool : List Str} (hb : b.length ≤ 20) (hp : pool.length = 5) (k : Int) (hk : 0 ≤ k) : ∃ o : List Str, o.length ≤ 20 ∧ S_k23._law_drawn [.scr (ns.map Dat.int), .int k, .lst (txs b), .lst (txs pool)] = some (.ok (.fro (.lst (txs o)))) := by
  obtain ⟨c1, hc1⟩ := k23_cell ns 1 (by omega)
  obtain ⟨ck, hck⟩ := k23_cell ns k hk
  obtain ⟨cn, hcn⟩ := k23_cell ns (k + 1) (by omega)
  obtain ⟨m, hm⟩ := k23_mixed c1 k hk
  obtain ⟨l1, ll1, e1⟩ := k23_list ck hp
  obtain ⟨l2, ll2, e2⟩ := k23_changed ck hb hp
  obtain ⟨l3, ll3, e3⟩ := k23_changed cn ll2 hp
  by_cases h0 : m % 6 = 0
  · exact ⟨l1, ll1, by simp [S_k23._law_drawn, S_k23._law_drawn_b, hc1, hck, hm, frz, h0, e1]⟩
  by_cases h1 : m % 6 = 1
  · exact ⟨b, hb, by simp [S_k23._law_drawn, S_k23._law_drawn_b, hc1, hck, hm, frz, h1]⟩
  by_cases h2 : m % 6 < 4
  · exact ⟨l3, ll3, by simp [S_k23._law_drawn, S_k23._law_drawn_b, hc1, hck, hcn, hm, frz, h0, h1, h2, e2, e3]⟩
  · exact ⟨l2, ll2, by simp [S_k23._law_drawn, S_k23._law_drawn_b, hc1, hck, hm, frz, h0, h1, h2, e2]⟩

theorem alm_lt {xs ys : List Str} {m k : Nat} (hm : m ≤ min xs.length ys.length) (h : k < alm xs ys m) : k < m ∧ xs[k]'(by unfold alm at h; omega) = ys[k]'(by unfold alm at h; omega) := by
  unfold alm at h
  have := alk_at xs ys k (by omega)
  rw [List.getElem?_eq_getElem (by omega), List.getElem?_eq_getElem (by omega)] at this
  exact ⟨by omega, Option.some.inj this⟩
theorem alm_end {xs ys : List Str} {m : Nat} (hm : m ≤ min xs.length ys.length) (h : alm xs ys m < m) : xs[alm xs ys m]'(by omega) ≠ ys[alm xs ys m]'(by omega) := by
  have e : alm xs ys m = alk xs ys := by unfold alm at h ⊢; omega
  have := alk_end xs ys (by omega)
  intro z
  apply this
  have h' : alk xs ys < m := by omega
  rw [List.getElem?_eq_getElem (by omega), List.getElem?_eq_getElem (by omega)]
  congr 1
  simpa only [e] using z
theorem k23_middle {b o : List Str} (hb : b.length ≤ 1000) (ho : o.length ≤ 1000) : S_k23._law_middle [.lst (txs b), .lst (txs o)] = some (.ok (.fro (.lst (txs (bkL b o))))) := by
  have l1 := bkS_le b o
  have w1 := while_count (t := and2 (tst (bin ltD (rd 2) (app minD (consA (app lenD (consA (rd 0) nilA)) (consA (app lenD (consA (rd 1) nilA)) nilA))))) (tst (bin eqD (bin subD' (rd 0) (rd 2)) (bin subD' (rd 1) (rd 2))))) (b := asgS 2 (bin addD (rd 2) (kD (.int 1))))
    (fun k => [some (.fro (.lst (txs b))), some (.fro (.lst (txs o))), some (.fro (.int (k : Nat))), none]) (bkS b o) (fun k hk => by
      have hk' : k < alm b o (min b.length o.length) := by unfold alm; unfold bkS at hk l1; omega
      obtain ⟨q1, q2⟩ := alm_lt (Nat.le_refl _) hk'
      have x1 := at_txs (xs := b) (n := k) (by omega)
      have x2 := at_txs (xs := o) (n := k) (by omega)
      exact ⟨by simp [x1, x2, q1, q2], by simp⟩) (by
      by_cases hk : bkS b o < min b.length o.length
      · have e : alm b o (min b.length o.length) = bkS b o := by unfold alm bkS; unfold bkS at l1; omega
        have q := alm_end (xs := b) (ys := o) (Nat.le_refl _) (by rw [e]; exact hk)
        simp only [e] at q
        have x1 := at_txs (xs := b) (n := bkS b o) (by omega)
        have x2 := at_txs (xs := o) (n := bkS b o) (by omega)
        simp [x1, x2, hk, q]
      · have hk' : ¬ ((bkS b o : Nat) : Int) < ((min b.length o.length : Nat) : Int) := by omega
        simp [hk']) 100000 0 (Nat.zero_le _) (by omega)
  have l2 := bkB_le b o
  have hmr : min b.length o.length - bkS b o ≤ min b.reverse.length o.reverse.length := by rw [List.length_reverse, List.length_reverse]; omega
  have eB : alm b.reverse o.reverse (min b.length o.length - bkS b o) = bkB b o := rfl
  have w2 := while_count (t := and2 (tst (bin ltD (rd 3) (bin subD (app minD (consA (app lenD (consA (rd 0) nilA)) (consA (app lenD (consA (rd 1) nilA)) nilA))) (rd 2)))) (tst (bin eqD (bin subD' (rd 0) (bin subD (un negD (kD (.int 1))) (rd 3))) (bin subD' (rd 1) (bin subD (un negD (kD (.int 1))) (rd 3)))))) (b := asgS 3 (bin addD (rd 3) (kD (.int 1))))
    (fun k => [some (.fro (.lst (txs b))), some (.fro (.lst (txs o))), some (.fro (.int (bkS b o))), some (.fro (.int (k : Nat)))]) (bkB b o) (fun k hk => by
      obtain ⟨q1, q2⟩ := alm_lt (k := k) hmr (by rw [eB]; exact hk)
      have x1 := at_neg (xs := b) (k := k) (by omega)
      have x2 := at_neg (xs := o) (k := k) (by omega)
      rw [List.getElem_reverse, List.getElem_reverse] at q2
      have hlt : (k : Int) < ((min b.length o.length : Nat) : Int) - ((bkS b o : Nat) : Int) := by omega
      exact ⟨by simp [x1, x2, q2, hlt], by simp⟩) (by
      by_cases hk : bkB b o < min b.length o.length - bkS b o
      · have q := alm_end hmr (by rw [eB]; exact hk)
        simp only [eB] at q
        rw [List.getElem_reverse, List.getElem_reverse] at q
        have x1 := at_neg (xs := b) (k := bkB b o) (by omega)
        have x2 := at_neg (xs := o) (k := bkB b o) (by omega)
        have hlt : ((bkB b o : Nat) : Int) < ((min b.length o.length : Nat) : Int) - ((bkS b o : Nat) : Int) := by omega
        simp [x1, x2, hlt, q]
      · have hlt : ¬ ((bkB b o : Nat) : Int) < ((min b.length o.length : Nat) : Int) - ((bkS b o : Nat) : Int) := by omega
        simp [hlt]) 100000 0 (Nat.zero_le _) (by omega)
  simp at w1 w2
  have c : ((o.length : Nat) : Int) - ((bkB b o : Nat) : Int) = ((o.length - bkB b o : Nat) : Int) := by omega
  have k1 : cut (txs o) (some ((bkS b o : Nat) : Int)) (some ((o.length - bkB b o : Nat) : Int)) = txs (bkL b o) := by
    rw [cut_two' _ ⟨by omega, by omega⟩, Int.toNat_natCast, Int.toNat_natCast]
    rfl
  simp [S_k23._law_middle, S_k23._law_middle_b, w1, w2, c, k1, -cut_two']
theorem k23_stand {ls xs pre post : List Str} (e : ls = pre ++ xs ++ post) (hl : ls.length ≤ 1000) : S_k23._law_stand_in [.lst (txs ls), .lst (txs xs)] = some (.ok (.fro (.bl true))) := by
  have len := congrArg List.length e
  rw [List.length_append, List.length_append] at len
  have hr : r1 [.int ((ls.length : Int) - (xs.length : Int) + 1)] = some (rng 0 (ls.length - xs.length + 1)) := by
    rw [r1_int (by omega)]
    congr 2
    omega
  have find := forGo_find (h := hName 2) (b := ifS (tst (bin eqD (slS (rd 0) (prt (rd 2)) (prt (bin addD (rd 2) (app lenD (consA (rd 1) nilA))))) (rd 1))) (retS (kD (.bl true))) nilS) (v := .fro (.bl true))
    (fun ρ => ∃ x, ρ = [some (.fro (.lst (txs ls))), some (.fro (.lst (txs xs))), x]) (rng 0 (ls.length - xs.length + 1)) [some (.fro (.lst (txs ls))), some (.fro (.lst (txs xs))), none] (fun d hd ρ ⟨x, hx⟩ => by
      subst hx
      obtain ⟨i, hi, rfl⟩ := mem_rng hd
      refine ⟨_, rfl, ?_⟩
      have hc := cut_two' ls (i := (i : Int)) (j := (i : Int) + (xs.length : Int)) ⟨by omega, by omega⟩
      rw [Int.toNat_natCast] at hc
      by_cases z : (ls.take ((i : Int) + (xs.length : Int)).toNat).drop i = xs
      · exact .inl (by simp [hc, z, -cut_two'])
      · exact .inr ⟨[some (.fro (.lst (txs ls))), some (.fro (.lst (txs xs))), some (.fro (.int (i : Int)))], by simp [hc, z, -cut_two'], _, rfl⟩) ⟨.int ((0 : Int) + (pre.length : Int)), by
        rw [rng_is]
        exact List.mem_map.mpr ⟨pre.length, List.mem_range.mpr (by omega), rfl⟩, fun ρ ⟨x, hx⟩ => by
      subst hx
      refine ⟨_, rfl, ?_⟩
      have hc := cut_two' ls (i := (pre.length : Int)) (j := (pre.length : Int) + (xs.length : Int)) ⟨by omega, by omega⟩
      have z : (ls.take ((pre.length : Int) + (xs.length : Int)).toNat).drop (pre.length : Int).toNat = xs := by
        have : ((pre.length : Int) + (xs.length : Int)).toNat = (pre ++ xs).length := by rw [List.length_append]; omega
        rw [this, e, List.take_left, Int.toNat_natCast, List.drop_left]
      rw [Int.toNat_natCast] at hc z
      simp [hc, z, -cut_two']⟩ ⟨none, rfl⟩
  simp [S_k23._law_stand_in, S_k23._law_stand_in_b, hr, find]
theorem k23_apart {b o n ls : List Str} (hb : b.length ≤ 1000) (ho : o.length ≤ 1000) (hn : n.length ≤ 1000) (hl : ls.length ≤ 1000) (h1 : o ≠ b → ∃ pre post, ls = pre ++ bkL b o ++ post) (h2 : o ≠ b → n ≠ b → ∃ pre post, ls = pre ++ bkL b n ++ post) (h3 : ∀ x ∈ ls, x ∈ o ∨ x ∈ n) : S_k23._law_apart [.lst (txs b), .lst (txs o), .lst (txs n), .lst (txs ls)] = some (.ok (.fro (.bl true))) := by
  have m1 := k23_middle hb ho
  have m2 := k23_middle hb hn
  have comp := lcGo_run (h := hName 4) (t := and2 (tst (bin ninD (rd 4) (rd 1))) (tst (bin ninD (rd 4) (rd 2)))) (f := rd 4) (ρ := [some (.fro (.lst (txs b))), some (.fro (.lst (txs o))), some (.fro (.lst (txs n))), some (.fro (.lst (txs ls))), none]) (g := Dat.str) (p := fun x => !decide (x ∈ o) && !decide (x ∈ n)) (F := Dat.str) ls fun x hx => by
    refine ⟨_, rfl, ?_, fun _ => rfl⟩
    by_cases z : x ∈ o
    · simp [z]
    · simp [z]
  have nofilt : ls.filter (fun x => !decide (x ∈ o) && !decide (x ∈ n)) = [] := by
    rw [List.filter_eq_nil_iff]
    intro x hx
    rcases h3 x hx with z | z <;> simp [z]
  rw [nofilt] at comp
  have hz : ls.length ≤ 16777216 := by omega
  have comp' : lcGo (hName 4) (and2 (tst (bin ninD (rd 4) (rd 1))) (tst (bin ninD (rd 4) (rd 2)))) (rd 4) [some (.fro (.lst (txs b))), some (.fro (.lst (txs o))), some (.fro (.lst (txs n))), some (.fro (.lst (txs ls))), none] (txs ls) = some [] := comp
  have le : eqD (.lst []) (.lst []) = some (.bl true) := eq_self (by simp [sim, sims]) (by simp [dp, dps])
  by_cases c1 : o = b
  · simp [S_k23._law_apart, S_k23._law_apart_b, c1, wipeR, hz, le]
    simp [c1] at comp'
    simp [comp', le]
  · obtain ⟨p1, q1, e1⟩ := h1 c1
    have s1 := k23_stand e1 hl
    by_cases c2 : n = b
    · subst c2
      simp [S_k23._law_apart, S_k23._law_apart_b, c1, m1, s1, frz, wipeR, hz, comp', le]
    · obtain ⟨p2, q2, e2⟩ := h2 c1 c2
      have s2 := k23_stand e2 hl
      simp [S_k23._law_apart, S_k23._law_apart_b, c1, c2, m1, m2, s1, s2, frz, wipeR, hz, comp', le]

theorem aprt_comm (s1 e1 s2 e2 : Nat) (h : aprt s1 e1 s2 e2 = true) : aprt s2 e2 s1 e1 = true := by
  unfold aprt at h ⊢
  simp only [Bool.and_eq_true, Bool.not_eq_true', decide_eq_false_iff_not, Bool.or_eq_true, decide_eq_true_eq] at h ⊢
  omega
theorem both_comm (xs : List Str) (s1 e1 : Nat) (l1 : List Str) (s2 e2 : Nat) (l2 : List Str) (u1 : s1 ≤ e1) (u2 : s2 ≤ e2) (h : aprt s1 e1 s2 e2 = true) : bothD xs s2 e2 l2 s1 e1 l1 = bothD xs s1 e1 l1 s2 e2 l2 := by
  unfold aprt at h
  simp only [Bool.and_eq_true, Bool.not_eq_true', decide_eq_false_iff_not, Bool.or_eq_true, decide_eq_true_eq] at h
  unfold bothD
  by_cases c : e1 ≤ s2
  · rw [if_pos c, if_neg (by omega)]
  · rw [if_neg c, if_pos (by omega)]
theorem both_in (xs : List Str) (s1 e1 : Nat) (l1 : List Str) (s2 e2 : Nat) (l2 : List Str) : (∃ pre post, bothL xs s1 e1 l1 s2 e2 l2 = pre ++ l1 ++ post) ∧ ∃ pre post, bothL xs s1 e1 l1 s2 e2 l2 = pre ++ l2 ++ post := by
  refine ⟨⟨xs.take s1, (xs.take s2).drop e1 ++ l2 ++ xs.drop e2, ?_⟩, xs.take s1 ++ l1 ++ (xs.take s2).drop e1, xs.drop e2, ?_⟩
  · simp only [bothL, List.append_assoc]
  · simp only [bothL, List.append_assoc]
theorem mem_drop_of {x : Str} {xs : List Str} {i j : Nat} (h : i ≤ j) (hx : x ∈ xs.drop j) : x ∈ xs.drop i := by
  have : xs.drop j = (xs.drop i).drop (j - i) := by rw [List.drop_drop]; congr 1; omega
  rw [this] at hx
  exact List.mem_of_mem_drop hx
theorem both_mem (xs o n : List Str) (s1 e1 : Nat) (l1 : List Str) (s2 e2 : Nat) (l2 : List Str) (u1 : s1 ≤ e1) (u2 : s2 ≤ e2) (c : e1 ≤ s2) (ho : xs.take s1 ++ l1 ++ xs.drop e1 = o) (hn : xs.take s2 ++ l2 ++ xs.drop e2 = n) : ∀ x ∈ bothL xs s1 e1 l1 s2 e2 l2, x ∈ o ∨ x ∈ n := by
  intro x hx
  subst ho hn
  simp only [bothL, List.mem_append] at hx ⊢
  rcases hx with (((h | h) | h) | h) | h
  · exact .inl (.inl (.inl h))
  · exact .inl (.inl (.inr h))
  · refine .inl (.inr ?_)
    rw [List.drop_take] at h
    exact List.mem_of_mem_take h
  · exact .inr (.inl (.inr h))
  · exact .inr (.inr h)
theorem pt_beside {b o n l w : List Str} (h : ptT b o n = (l, some w)) : w = o ∧ l = n ∧ ptT b n o = (o, some n) := by
  unfold ptT at h
  split at h
  · cases h
  split at h
  · cases h
  rename_i h1 h2
  split at h
  · cases h
  rename_i h3
  cases h
  refine ⟨rfl, rfl, ?_⟩
  unfold ptT
  rw [if_neg (fun z => h2 (.inl z)), if_neg (fun z => z.elim h1 fun z => h2 (.inr z.symm)), if_neg (fun z => h3 (aprt_comm _ _ _ _ z))]
theorem pt_lines {b o n l : List Str} (hb : b.length ≤ 20) (ho : o.length ≤ 20) (hn : n.length ≤ 20) (h : ptT b o n = (l, none)) : ptT b n o = (l, none) ∧ (o ≠ b → ∃ pre post, l = pre ++ bkL b o ++ post) ∧ (o ≠ b → n ≠ b → ∃ pre post, l = pre ++ bkL b n ++ post) ∧ (∀ x ∈ l, x ∈ o ∨ x ∈ n) ∧ l.length ≤ 1000 := by
  unfold ptT at h
  split at h
  · rename_i h1
    cases h
    refine ⟨?_, fun z => absurd h1 z, fun z => absurd h1 z, fun x hx => .inr hx, by omega⟩
    unfold ptT
    by_cases h2 : n = b
    · rw [if_pos h2, h1, h2]
    · rw [if_neg h2, if_pos (.inl h1)]
  rename_i h1
  split at h
  · rename_i h2
    cases h
    refine ⟨?_, fun _ => ⟨_, _, (app_bk b o).symm⟩, fun _ z => ?_, fun x hx => .inl hx, by omega⟩
    · unfold ptT
      by_cases h3 : n = b
      · rw [if_pos h3]
      · have : o = n := h2.resolve_left h3
        rw [if_neg h3, if_pos (.inr this.symm), this]
    · have : o = n := h2.resolve_left z
      rw [this]
      exact ⟨_, _, (app_bk b n).symm⟩
  rename_i h2
  split at h
  · rename_i h3
    have p1 := bkS_le b o
    have p2 := bkB_le b o
    have p3 := bkS_le b n
    have p4 := bkB_le b n
    have u1 : bkS b o ≤ b.length - bkB b o := by omega
    have u2 : bkS b n ≤ b.length - bkB b n := by omega
    have q1 := bkL_le b o
    have q2 := bkL_le b n
    have a1 := app_bk b o
    have a2 := app_bk b n
    have e := (Prod.mk.inj h).1
    subst e
    refine ⟨?_, fun _ => ?_, fun _ _ => ?_, ?_, ?_⟩
    · unfold ptT
      rw [if_neg (fun z => h2 (.inl z)), if_neg (fun z => z.elim h1 fun z => h2 (.inr z.symm)), if_pos (aprt_comm _ _ _ _ h3), both_comm _ _ _ _ _ _ _ u1 u2 h3]
    · unfold bothD
      split
      · exact (both_in _ _ _ _ _ _ _).2
      · exact (both_in _ _ _ _ _ _ _).1
    · unfold bothD
      split
      · exact (both_in _ _ _ _ _ _ _).1
      · exact (both_in _ _ _ _ _ _ _).2
    · unfold bothD
      unfold aprt at h3
      simp only [Bool.and_eq_true, Bool.not_eq_true', decide_eq_false_iff_not, Bool.or_eq_true, decide_eq_true_eq] at h3
      split
      · rename_i c
        exact fun x hx => (both_mem b n o _ _ _ _ _ _ u2 u1 c a2 a1 x hx).symm
      · rename_i c
        exact both_mem b o n _ _ _ _ _ _ u1 u2 (by omega) a1 a2
    · unfold bothD bothL
      split <;> (simp only [List.length_append, List.length_take, List.length_drop]; omega)
  · cases h
theorem K23_law_true (ns : List Int) (hn : ns.length ≤ 63) : S_k23.law [.scr (ns.map Dat.int)] = some (.ok (.fro (.bl true))) := by
  obtain ⟨c0, hc0⟩ := k23_cell ns 0 (by omega)
  obtain ⟨c1, hc1⟩ := k23_cell ns 1 (by omega)
  obtain ⟨c6, hc6⟩ := k23_cell ns 6 (by omega)
  obtain ⟨m, hm⟩ := k23_mixed c1 0 (by omega)
  obtain ⟨pool, ep, lp⟩ := lcGo_txs (h := hName 9) (f := frzS (callS S_k23._law_line (consA (frzS (callS S_k23._law_cell_at (consA (rd 0) (consA (kD (.int 6)) nilA)))) (consA (rd 9) nilA)))) (ρ := [some (.fro (.scr (ns.map Dat.int))), none, none, none, none, none, none, none, none, none]) (rng 0 5) fun d hd => by
    obtain ⟨i, hi, rfl⟩ := mem_rng hd
    obtain ⟨s, hs⟩ := k23_line c6 (0 + (i : Int)) (by omega)
    refine ⟨_, s, rfl, ?_⟩
    simp at hs
    simp [hc6, hs, frz]
  rw [rng_len] at lp
  obtain ⟨b, lb, eb⟩ := k23_list c0 lp
  obtain ⟨o, lo, eo⟩ := k23_drawn ns lb lp 2 (by omega)
  obtain ⟨n1, ln1, en1⟩ := k23_drawn ns lb lp 4 (by omega)
  have main : ∀ n : List Str, n.length ≤ 20 → ∀ x7 : List (Option SV), (seqS (asgT (hTup 2 (hCons (hName 5) (hCons (hName 6) hNil))) (frzS (callS S.put_together (consA (app listD (consA (rd 2) nilA)) (consA (app listD (consA (rd 3) nilA)) (consA (app listD (consA (rd 4) nilA)) nilA))))))
    (seqS (asgT (hTup 2 (hCons (hName 7) (hCons (hName 8) hNil))) (frzS (callS S.put_together (consA (app listD (consA (rd 2) nilA)) (consA (app listD (consA (rd 4) nilA)) (consA (app listD (consA (rd 3) nilA)) nilA))))))
    (seqS (ifS (tst (bin neD (noneS (rd 6)) (noneS (rd 8)))) (retS (kD (.bl false))) nilS)
    (seqS (ifS (tst (someS (rd 6))) (retS (andV (bin eqD (rd 6) (rd 3)) (andV (bin eqD (rd 5) (rd 4)) (andV (bin eqD (rd 8) (rd 4)) (bin eqD (rd 7) (rd 3)))))) nilS)
    (retS (andV (bin eqD (rd 5) (rd 7)) (frzS (callS S_k23._law_apart (consA (rd 2) (consA (rd 3) (consA (rd 4) (consA (rd 5) nilA)))))))))))) [some (.fro (.scr (ns.map Dat.int))), some (.fro (.lst (txs pool))), some (.fro (.lst (txs b))), some (.fro (.lst (txs o))), some (.fro (.lst (txs n))), none, none, none, none, none] = .ret (.fro (.bl true)) := fun n ln _ => by
    have k1 := put_is b o n (by omega) (by omega) (by omega)
    have k2 := put_is b n o (by omega) (by omega) (by omega)
    have f1 := frz_pt (ptT b o n)
    have f2 := frz_pt (ptT b n o)
    cases h : ptT b o n with
    | mk l w =>
    rw [h] at k1 f1
    cases w with
    | none =>
      obtain ⟨g1, g2, g3, g4, g5⟩ := pt_lines lb lo ln h
      rw [g1] at k2
      have ap := k23_apart (b := b) (o := o) (n := n) (ls := l) (by omega) (by omega) (by omega) g5 g2 g3 g4
      simp [k1, k2, f1, ptD, isNo, ap, frz]
    | some w =>
      obtain ⟨rfl, rfl, g⟩ := pt_beside h
      rw [g] at k2 f2
      simp [k1, k2, f1, f2, ptD, isNo]
  by_cases h : m % 9 = 4
  · have mm := main o lo []
    rw [m_seqS] at mm
    simp [S_k23.law, S_k23.law_b, wipeR, rng_len, ep, hc0, hc1, eb, eo, en1, hm, h, frz, mm, -m_asgT]
  · have mm := main n1 ln1 []
    rw [m_seqS] at mm
    simp [S_k23.law, S_k23.law_b, wipeR, rng_len, ep, hc0, hc1, eb, eo, en1, hm, h, frz, mm, -m_asgT]
end
end Pq

namespace Pq
namespace K23
open PySem PySem.Spec PyProof.Rows L2
def top (i : Nat) : Stmt := PySem.Challenge.pw_parcelmend_k23_whole_nothing_is_lost.main.body.getD i (.Pass ⟨0, 0, 0, 0⟩)
abbrev s0 : Stmt := top 1
abbrev s1 : Stmt := top 2
abbrev s2 : Stmt := top 3
abbrev s3 : Stmt := top 4
abbrev s4 : Stmt := top 5
abbrev s5 : Stmt := top 7
abbrev s6 : Stmt := top 8
abbrev s7 : Stmt := top 9
abbrev s8 : Stmt := top 10
abbrev s9 : Stmt := top 11
abbrev s10 : Stmt := top 12
abbrev s11 : Stmt := top 13
abbrev s12 : Stmt := top 14
abbrev s13 : Stmt := top 15
abbrev s14 : Stmt := top 16
theorem sc0 : FnScope ["one", "other", "most", "many"] ["one", "other", "most"] (defScope s0) := ⟨rfl, rfl, rfl, by decide +kernel, rfl, by decide +kernel, by decide +kernel⟩
theorem sc1 : FnScope ["base", "other", "least", "start", "behind"] ["base", "other"] (defScope s1) := ⟨rfl, rfl, rfl, by decide +kernel, rfl, by decide +kernel, by decide +kernel⟩
theorem sc2 : FnScope ["one", "other"] ["one", "other"] (defScope s2) := ⟨rfl, rfl, rfl, by decide +kernel, rfl, by decide +kernel, by decide +kernel⟩
theorem sc3 : FnScope ["base", "one", "other", "first", "last"] ["base", "one", "other"] (defScope s3) := ⟨rfl, rfl, rfl, by decide +kernel, rfl, by decide +kernel, by decide +kernel⟩
theorem sc4 : FnScope ["base", "own", "new", "mine", "brought"] ["base", "own", "new"] (defScope s4) := ⟨rfl, rfl, rfl, by decide +kernel, rfl, by decide +kernel, by decide +kernel⟩
theorem sc5 : FnScope ["_law_script", "_law_k"] ["_law_script", "_law_k"] (defScope s5) := ⟨rfl, rfl, rfl, by decide +kernel, rfl, by decide +kernel, by decide +kernel⟩
theorem sc6 : FnScope ["_law_cell", "_law_k", "_law_number"] ["_law_cell", "_law_k"] (defScope s6) := ⟨rfl, rfl, rfl, by decide +kernel, rfl, by decide +kernel, by decide +kernel⟩
theorem sc7 : FnScope ["_law_cell", "_law_j", "_law_some", "_law_many", "_law_k"] ["_law_cell", "_law_j"] (defScope s7) := ⟨rfl, rfl, rfl, by decide +kernel, rfl, by decide +kernel, by decide +kernel⟩
theorem sc8 : FnScope ["_law_cell", "_law_pool", "_law_many", "_law_k"] ["_law_cell", "_law_pool"] (defScope s8) := ⟨rfl, rfl, rfl, by decide +kernel, rfl, by decide +kernel, by decide +kernel⟩
theorem sc9 : FnScope ["_law_base", "_law_cell", "_law_pool", "_law_start", "_law_stop", "_law_put", "_law_k"] ["_law_base", "_law_cell", "_law_pool"] (defScope s9) := ⟨rfl, rfl, rfl, by decide +kernel, rfl, by decide +kernel, by decide +kernel⟩
theorem sc10 : FnScope ["_law_script", "_law_k", "_law_base", "_law_pool", "_law_cell", "_law_way", "_law_found"] ["_law_script", "_law_k", "_law_base", "_law_pool"] (defScope s10) := ⟨rfl, rfl, rfl, by decide +kernel, rfl, by decide +kernel, by decide +kernel⟩
theorem sc11 : FnScope ["_law_base", "_law_other", "_law_start", "_law_behind"] ["_law_base", "_law_other"] (defScope s11) := ⟨rfl, rfl, rfl, by decide +kernel, rfl, by decide +kernel, by decide +kernel⟩
theorem sc12 : FnScope ["_law_lines", "_law_some", "_law_k"] ["_law_lines", "_law_some"] (defScope s12) := ⟨rfl, rfl, rfl, by decide +kernel, rfl, by decide +kernel, by decide +kernel⟩
theorem sc13 : FnScope ["_law_base", "_law_own", "_law_new", "_law_lines", "_law_line_here"] ["_law_base", "_law_own", "_law_new", "_law_lines"] (defScope s13) := ⟨rfl, rfl, rfl, by decide +kernel, rfl, by decide +kernel, by decide +kernel⟩
theorem sc14 : FnScope ["_law_script", "_law_pool", "_law_base", "_law_own", "_law_new", "_law_lines", "_law_beside", "_law_turned", "_law_other", "_law_j"] ["_law_script"] (defScope s14) := ⟨rfl, rfl, rfl, by decide +kernel, rfl, by decide +kernel, by decide +kernel⟩
structure Txt (K : PySem.W.Frag) (mg : Str → Option Value) (fa : Nat → Addr) (fd : Nat → FuncData) : Prop where
  d0 : Dfn K mg "alike_lines" "alike_lines" s0 (fa 0) (fd 0) ["one", "other", "most"]
  d1 : Dfn K mg "block_of" "block_of" s1 (fa 1) (fd 1) ["base", "other"]
  d2 : Dfn K mg "are_apart" "are_apart" s2 (fa 2) (fd 2) ["one", "other"]
  d3 : Dfn K mg "both_done" "both_done" s3 (fa 3) (fd 3) ["base", "one", "other"]
  d4 : Dfn K mg "put_together" "put_together" s4 (fa 4) (fd 4) ["base", "own", "new"]
  d5 : Dfn K mg "_law_cell_at" "_law_cell_at" s5 (fa 5) (fd 5) ["_law_script", "_law_k"]
  d6 : Dfn K mg "_law_mixed" "_law_mixed" s6 (fa 6) (fd 6) ["_law_cell", "_law_k"]
  d7 : Dfn K mg "_law_line" "_law_line" s7 (fa 7) (fd 7) ["_law_cell", "_law_j"]
  d8 : Dfn K mg "_law_list" "_law_list" s8 (fa 8) (fd 8) ["_law_cell", "_law_pool"]
  d9 : Dfn K mg "_law_changed" "_law_changed" s9 (fa 9) (fd 9) ["_law_base", "_law_cell", "_law_pool"]
  d10 : Dfn K mg "_law_drawn" "_law_drawn" s10 (fa 10) (fd 10) ["_law_script", "_law_k", "_law_base", "_law_pool"]
  d11 : Dfn K mg "_law_middle" "_law_middle" s11 (fa 11) (fd 11) ["_law_base", "_law_other"]
  d12 : Dfn K mg "_law_stand_in" "_law_stand_in" s12 (fa 12) (fd 12) ["_law_lines", "_law_some"]
  d13 : Dfn K mg "_law_apart" "_law_apart" s13 (fa 13) (fd 13) ["_law_base", "_law_own", "_law_new", "_law_lines"]
  d14 : Dfn K mg "law" "law" s14 (fa 14) (fd 14) ["_law_script"]
  z_len : mg "len" = none
  z_list : mg "list" = none
  z_min : mg "min" = none
  z_range : mg "range" = none
section
variable {P : Program} {w : World} {K : PySem.W.Frag} {mg : Str → Option Value} {base : Heap} {cm : Str → Addr} {fa : Nat → Addr} {fd : Nat → FuncData}
theorem ok0 (T : Txt K mg fa fd) : FnOk P w K mg base (L2.CX P w) 1 (fa 0) (fd 0) ["one", "other", "most"] (spX K cm S.alike_lines) :=
  fn_x (N := ["one", "other", "most", "many"]) (ps := ["one", "other", "most"]) (b := S.alike_lines_b) rfl T.d0.F sc0 fun cdv A outer s H E W hr =>
    (p_cons (p_set (i := 3) sc0.nd rfl (Or.inl rfl) e_int)
    (p_cons (p_while 100000 PassesOwn.never (L2.PW.pt (w_and (t_lt (ev 3 rfl (.inl rfl)) (ev 2 rfl (.inl rfl))) (w_and1 (t_eq hr.units (e_sub' (hu_of hr) (ev 0 rfl (.inl rfl)) (ev 3 rfl (.inl rfl))) (e_sub' (hu_of hr) (ev 1 rfl (.inl rfl)) (ev 3 rfl (.inl rfl))))))) (p_one (p_augAdd (i := 3) sc0.nd rfl (Or.inl rfl) e_int)))
    (p_one (p_ret (ev 3 rfl (.inl rfl))))))
theorem ok1 (T : Txt K mg fa fd) : FnOk P w K mg base (L2.CX P w) 2 (fa 1) (fd 1) ["base", "other"] (spX K cm S.block_of) :=
  fn_x (N := ["base", "other", "least", "start", "behind"]) (ps := ["base", "other"]) (b := S.block_of_b) rfl T.d1.F sc1 fun cdv A outer s H E W hr =>
    (p_cons (p_set (i := 2) sc1.nd rfl (Or.inl rfl) (e_min rfl rfl T.z_min (a_cons (e_len rfl T.z_len (a_cons (ev 0 rfl (.inl rfl)) a_nil)) (a_cons (e_len rfl T.z_len (a_cons (ev 1 rfl (.inl rfl)) a_nil)) a_nil))))
    (p_cons (p_set (i := 3) sc1.nd rfl (Or.inl rfl) (e_o (o_call (ok0 T) (hr.mono (by decide)) rfl T.d0.g T.d0.F.kp T.d0.b (a_cons (ev 0 rfl (.inl rfl)) (a_cons (ev 1 rfl (.inl rfl)) (a_cons (ev 2 rfl (.inl rfl)) a_nil))))))
    (p_cons (p_set (i := 4) sc1.nd rfl (Or.inl rfl) (e_o (o_call (ok0 T) (hr.mono (by decide)) rfl T.d0.g T.d0.F.kp T.d0.b (a_cons (e_rev (ev 0 rfl (.inl rfl))) (a_cons (e_rev (ev 1 rfl (.inl rfl))) (a_cons (e_sub (ev 2 rfl (.inl rfl)) (ev 3 rfl (.inl rfl))) a_nil))))))
    (p_one (p_retO (o_tup (ao_cons (o_e (ev 3 rfl (.inl rfl))) (ao_cons (o_e (e_sub (e_len rfl T.z_len (a_cons (ev 0 rfl (.inl rfl)) a_nil)) (ev 4 rfl (.inl rfl)))) (ao_cons (o_sl (ev 1 rfl (.inl rfl)) (p_e (ev 3 rfl (.inl rfl))) (p_e (e_sub (e_len rfl T.z_len (a_cons (ev 1 rfl (.inl rfl)) a_nil)) (ev 4 rfl (.inl rfl))))) ao_nil)))))))))
theorem ok2 (T : Txt K mg fa fd) : FnOk P w K mg base (L2.CX P w) 1 (fa 2) (fd 2) ["one", "other"] (spX K cm S.are_apart) :=
  fn_x (N := ["one", "other"]) (ps := ["one", "other"]) (b := S.are_apart_b) rfl T.d2.F sc2 fun cdv A outer s H E W hr =>
    (p_cons (p_if (t_chn (e_sub' (hu_of hr) (ev 0 rfl (.inl rfl)) e_int) (ch_cons (op_deq hr.units) od_eq (e_sub' (hu_of hr) (ev 0 rfl (.inl rfl)) e_int) (ch_cons (op_deq hr.units) od_eq (e_sub' (hu_of hr) (ev 1 rfl (.inl rfl)) e_int) (ch_one (op_deq hr.units) od_eq (e_sub' (hu_of hr) (ev 1 rfl (.inl rfl)) e_int))))) (p_one (p_ret e_bl)) p_nil)
    (p_one (p_ret (v_or (e_le (e_sub' (hu_of hr) (ev 0 rfl (.inl rfl)) e_int) (e_sub' (hu_of hr) (ev 1 rfl (.inl rfl)) e_int)) (v_one (e_le (e_sub' (hu_of hr) (ev 1 rfl (.inl rfl)) e_int) (e_sub' (hu_of hr) (ev 0 rfl (.inl rfl)) e_int)))))))
theorem ok3 (T : Txt K mg fa fd) : FnOk P w K mg base (L2.CX P w) 1 (fa 3) (fd 3) ["base", "one", "other"] (spX K cm S.both_done) :=
  fn_x (N := ["base", "one", "other", "first", "last"]) (ps := ["base", "one", "other"]) (b := S.both_done_b) rfl T.d3.F sc3 fun cdv A outer s H E W hr =>
    (p_cons (p_set (i := 3) sc3.nd rfl (Or.inl rfl) (ev 1 rfl (.inl rfl)))
    (p_cons (p_set (i := 4) sc3.nd rfl (Or.inl rfl) (ev 2 rfl (.inl rfl)))
    (p_cons (p_if (t_le (e_sub' (hu_of hr) (ev 2 rfl (.inl rfl)) e_int) (e_sub' (hu_of hr) (ev 1 rfl (.inl rfl)) e_int)) (p_cons (p_set (i := 3) sc3.nd rfl (Or.inl rfl) (ev 2 rfl (.inl rfl)))
    (p_one (p_set (i := 4) sc3.nd rfl (Or.inl rfl) (ev 1 rfl (.inl rfl))))) p_nil)
    (p_one (p_retO (o_add (e_add (e_add (e_add (e_sl (ev 0 rfl (.inl rfl)) p_no (p_e (e_sub' (hu_of hr) (ev 3 rfl (.inl rfl)) e_int))) (e_sub' (hu_of hr) (ev 3 rfl (.inl rfl)) e_int)) (e_sl (ev 0 rfl (.inl rfl)) (p_e (e_sub' (hu_of hr) (ev 3 rfl (.inl rfl)) e_int)) (p_e (e_sub' (hu_of hr) (ev 4 rfl (.inl rfl)) e_int)))) (e_sub' (hu_of hr) (ev 4 rfl (.inl rfl)) e_int)) (e_sl (ev 0 rfl (.inl rfl)) (p_e (e_sub' (hu_of hr) (ev 4 rfl (.inl rfl)) e_int)) p_no)))))))
theorem ok4 (T : Txt K mg fa fd) : FnOk P w K mg base (L2.CX P w) 3 (fa 4) (fd 4) ["base", "own", "new"] (spX K cm S.put_together) :=
  fn_x (N := ["base", "own", "new", "mine", "brought"]) (ps := ["base", "own", "new"]) (b := S.put_together_b) rfl T.d4.F sc4 fun cdv A outer s H E W hr =>
    (p_cons (p_if (t_eq hr.units (ev 1 rfl (.inl rfl)) (ev 0 rfl (.inl rfl))) (p_one (p_retO (o_tup (ao_cons (o_list rfl T.z_list (a_cons (ev 2 rfl (.inl rfl)) a_nil)) (ao_cons (o_e e_non) ao_nil))))) p_nil)
    (p_cons (p_if (L2.PW.pt (w_or (t_eq hr.units (ev 2 rfl (.inl rfl)) (ev 0 rfl (.inl rfl))) (w_or1 (t_eq hr.units (ev 1 rfl (.inl rfl)) (ev 2 rfl (.inl rfl)))))) (p_one (p_retO (o_tup (ao_cons (o_list rfl T.z_list (a_cons (ev 1 rfl (.inl rfl)) a_nil)) (ao_cons (o_e e_non) ao_nil))))) p_nil)
    (p_cons (p_set (i := 3) sc4.nd rfl (Or.inl rfl) (e_o (o_call (ok1 T) (hr.mono (by decide)) rfl T.d1.g T.d1.F.kp T.d1.b (a_cons (ev 0 rfl (.inl rfl)) (a_cons (ev 1 rfl (.inl rfl)) a_nil)))))
    (p_cons (p_set (i := 4) sc4.nd rfl (Or.inl rfl) (e_o (o_call (ok1 T) (hr.mono (by decide)) rfl T.d1.g T.d1.F.kp T.d1.b (a_cons (ev 0 rfl (.inl rfl)) (a_cons (ev 2 rfl (.inl rfl)) a_nil)))))
    (p_cons (p_if (t_val (e_o (o_call (ok2 T) (hr.mono (by decide)) rfl T.d2.g T.d2.F.kp T.d2.b (a_cons (ev 3 rfl (.inl rfl)) (a_cons (ev 4 rfl (.inl rfl)) a_nil))))) (p_one (p_retO (o_tup (ao_cons (o_call (ok3 T) (hr.mono (by decide)) rfl T.d3.g T.d3.F.kp T.d3.b (a_cons (ev 0 rfl (.inl rfl)) (a_cons (ev 3 rfl (.inl rfl)) (a_cons (ev 4 rfl (.inl rfl)) a_nil)))) (ao_cons (o_e e_non) ao_nil))))) p_nil)
    (p_one (p_retO (o_tup (ao_cons (o_list rfl T.z_list (a_cons (ev 2 rfl (.inl rfl)) a_nil)) (ao_cons (o_list rfl T.z_list (a_cons (ev 1 rfl (.inl rfl)) a_nil)) ao_nil))))))))))
theorem ok5 (T : Txt K mg fa fd) : FnOk P w K mg base (L2.CX P w) 1 (fa 5) (fd 5) ["_law_script", "_law_k"] (spX K cm S_k23._law_cell_at) :=
  fn_x (N := ["_law_script", "_law_k"]) (ps := ["_law_script", "_law_k"]) (b := S_k23._law_cell_at_b) rfl T.d5.F sc5 fun cdv A outer s H E W hr =>
    (p_cons (p_if (t_lt (ev 1 rfl (.inl rfl)) (e_len rfl T.z_len (a_cons (ev 0 rfl (.inl rfl)) a_nil))) (p_one (p_ret (e_sub' (hu_of hr) (ev 0 rfl (.inl rfl)) (ev 1 rfl (.inl rfl))))) p_nil)
    (p_one (p_ret e_int)))
theorem ok6 (T : Txt K mg fa fd) : FnOk P w K mg base (L2.CX P w) 1 (fa 6) (fd 6) ["_law_cell", "_law_k"] (spX K cm S_k23._law_mixed) :=
  fn_x (N := ["_law_cell", "_law_k", "_law_number"]) (ps := ["_law_cell", "_law_k"]) (b := S_k23._law_mixed_b) rfl T.d6.F sc6 fun cdv A outer s H E W hr =>
    (p_cons (p_set (i := 2) sc6.nd rfl (Or.inl rfl) (e_mod (e_mul (e_add (e_add (e_and (ev 0 rfl (.inl rfl)) e_int) (e_mul e_int (ev 1 rfl (.inl rfl)))) e_int) e_int) e_int))
    (p_cons (p_set (i := 2) sc6.nd rfl (Or.inl rfl) (e_mod (e_mul (ev 2 rfl (.inl rfl)) (e_add (e_div (ev 2 rfl (.inl rfl)) e_int) e_int)) e_int))
    (p_cons (p_set (i := 2) sc6.nd rfl (Or.inl rfl) (e_mod (e_mul (ev 2 rfl (.inl rfl)) (e_add (e_div (ev 2 rfl (.inl rfl)) e_int) e_int)) e_int))
    (p_one (p_ret (e_xor (ev 2 rfl (.inl rfl)) (e_and (e_shr (ev 0 rfl (.inl rfl)) (e_add (e_mul e_int (ev 1 rfl (.inl rfl))) e_int)) e_int)))))))
theorem ok7 (T : Txt K mg fa fd) : FnOk P w K mg base (L2.CX P w) 2 (fa 7) (fd 7) ["_law_cell", "_law_j"] (spX K cm S_k23._law_line) :=
  fn_x (N := ["_law_cell", "_law_j", "_law_some", "_law_many", "_law_k"]) (ps := ["_law_cell", "_law_j"]) (b := S_k23._law_line_b) rfl T.d7.F sc7 fun cdv A outer s H E W hr =>
    (p_cons (p_set (i := 2) sc7.nd rfl (Or.inr rfl) e_str)
    (p_cons (p_set (i := 3) sc7.nd rfl (Or.inl rfl) (e_mod (e_o (o_call (ok6 T) (hr.mono (by decide)) rfl T.d6.g T.d6.F.kp T.d6.b (a_cons (ev 0 rfl (.inr (.inl rfl))) (a_cons (e_mul e_int (ev 1 rfl (.inr (.inl rfl)))) a_nil)))) e_int))
    (p_cons (p_if (t_gt (e_mod (e_o (o_call (ok6 T) (hr.mono (by decide)) rfl T.d6.g T.d6.F.kp T.d6.b (a_cons (ev 0 rfl (.inr (.inl rfl))) (a_cons (e_add e_int (ev 1 rfl (.inr (.inl rfl)))) a_nil)))) e_int) e_int) (p_one (p_set (i := 3) sc7.nd rfl (Or.inl rfl) (e_mod (ev 3 rfl (.inl rfl)) e_int))) p_nil)
    (p_one (p_ret (e_join e_str (e_lc (own := [("_law_k", 4)]) (vs := [4]) rfl rfl sc7.nd (i_range1 rfl T.z_range (a_cons (ev 3 rfl (.inl rfl)) a_nil)) (blkOk_by (N := ["_law_cell", "_law_j", "_law_some", "_law_many", "_law_k"]) (sc := defScope s7) (own := [("_law_k", 4)]) (by decide +kernel)) (by decide) (fun _ _ _ _ _ => (g_name (i := 4) sc7.nd rfl (Or.inl rfl))) (fun _ _ _ _ _ => ts_yes) (fun _ _ _ _ _ => (e_sub' (hu_of hr) (ev 2 rfl (.inr (.inl rfl))) (e_mod (e_o (o_call (ok6 T) (hr.mono (by decide)) rfl T.d6.g T.d6.F.kp T.d6.b (a_cons (ev 0 rfl (.inr (.inl rfl))) (a_cons (e_add (e_add (e_mul e_int (ev 1 rfl (.inr (.inl rfl)))) e_int) (ev 4 rfl (.inl rfl))) a_nil)))) (e_len rfl T.z_len (a_cons (ev 2 rfl (.inr (.inl rfl))) a_nil))))))))))))
theorem ok8 (T : Txt K mg fa fd) : FnOk P w K mg base (L2.CX P w) 2 (fa 8) (fd 8) ["_law_cell", "_law_pool"] (spX K cm S_k23._law_list) :=
  fn_x (N := ["_law_cell", "_law_pool", "_law_many", "_law_k"]) (ps := ["_law_cell", "_law_pool"]) (b := S_k23._law_list_b) rfl T.d8.F sc8 fun cdv A outer s H E W hr =>
    (p_cons (p_set (i := 2) sc8.nd rfl (Or.inl rfl) (e_mod (e_o (o_call (ok6 T) (hr.mono (by decide)) rfl T.d6.g T.d6.F.kp T.d6.b (a_cons (ev 0 rfl (.inr (.inl rfl))) (a_cons e_int a_nil)))) e_int))
    (p_cons (p_if (t_gt (e_mod (e_o (o_call (ok6 T) (hr.mono (by decide)) rfl T.d6.g T.d6.F.kp T.d6.b (a_cons (ev 0 rfl (.inr (.inl rfl))) (a_cons e_int a_nil)))) e_int) e_int) (p_one (p_set (i := 2) sc8.nd rfl (Or.inl rfl) (e_mod (ev 2 rfl (.inl rfl)) e_int))) p_nil)
    (p_one (p_ret (e_lc (own := [("_law_k", 3)]) (vs := [3]) rfl rfl sc8.nd (i_range1 rfl T.z_range (a_cons (ev 2 rfl (.inl rfl)) a_nil)) (blkOk_by (N := ["_law_cell", "_law_pool", "_law_many", "_law_k"]) (sc := defScope s8) (own := [("_law_k", 3)]) (by decide +kernel)) (by decide) (fun _ _ _ _ _ => (g_name (i := 3) sc8.nd rfl (Or.inl rfl))) (fun _ _ _ _ _ => ts_yes) (fun _ _ _ _ _ => (e_sub' (hu_of hr) (ev 1 rfl (.inr (.inl rfl))) (e_mod (e_o (o_call (ok6 T) (hr.mono (by decide)) rfl T.d6.g T.d6.F.kp T.d6.b (a_cons (ev 0 rfl (.inr (.inl rfl))) (a_cons (e_add e_int (ev 3 rfl (.inl rfl))) a_nil)))) e_int))))))))
theorem ok9 (T : Txt K mg fa fd) : FnOk P w K mg base (L2.CX P w) 2 (fa 9) (fd 9) ["_law_base", "_law_cell", "_law_pool"] (spX K cm S_k23._law_changed) :=
  fn_x (N := ["_law_base", "_law_cell", "_law_pool", "_law_start", "_law_stop", "_law_put", "_law_k"]) (ps := ["_law_base", "_law_cell", "_law_pool"]) (b := S_k23._law_changed_b) rfl T.d9.F sc9 fun cdv A outer s H E W hr =>
    (p_cons (p_set (i := 3) sc9.nd rfl (Or.inl rfl) (e_mod (e_o (o_call (ok6 T) (hr.mono (by decide)) rfl T.d6.g T.d6.F.kp T.d6.b (a_cons (ev 1 rfl (.inr (.inl rfl))) (a_cons e_int a_nil)))) (e_add (e_len rfl T.z_len (a_cons (ev 0 rfl (.inl rfl)) a_nil)) e_int)))
    (p_cons (p_set (i := 4) sc9.nd rfl (Or.inl rfl) (e_add (ev 3 rfl (.inl rfl)) (e_mod (e_o (o_call (ok6 T) (hr.mono (by decide)) rfl T.d6.g T.d6.F.kp T.d6.b (a_cons (ev 1 rfl (.inr (.inl rfl))) (a_cons e_int a_nil)))) (e_add e_int (e_min rfl rfl T.z_min (a_cons e_int (a_cons (e_sub (e_len rfl T.z_len (a_cons (ev 0 rfl (.inl rfl)) a_nil)) (ev 3 rfl (.inl rfl))) a_nil)))))))
    (p_cons (p_setLc (own := [("_law_k", 6)]) (vs := [6]) (i := 5) rfl rfl sc9.nd rfl rfl (sw_true rfl rfl rfl (by decide +kernel)) (i_range1 rfl T.z_range (a_cons (e_mod (e_o (o_call (ok6 T) (hr.mono (by decide)) rfl T.d6.g T.d6.F.kp T.d6.b (a_cons (ev 1 rfl (.inr (.inl rfl))) (a_cons e_int a_nil)))) e_int) a_nil)) (blkOk_by (N := ["_law_base", "_law_cell", "_law_pool", "_law_start", "_law_stop", "_law_put", "_law_k"]) (sc := defScope s9) (own := [("_law_k", 6)]) (by decide +kernel)) (by decide) (fun _ _ _ _ _ => (g_name (i := 6) sc9.nd rfl (Or.inl rfl))) (fun _ _ _ _ _ => ts_yes) (fun _ _ _ _ _ => (e_sub' (hu_of hr) (ev 2 rfl (.inr (.inl rfl))) (e_mod (e_o (o_call (ok6 T) (hr.mono (by decide)) rfl T.d6.g T.d6.F.kp T.d6.b (a_cons (ev 1 rfl (.inr (.inl rfl))) (a_cons (e_add e_int (ev 6 rfl (.inl rfl))) a_nil)))) e_int))))
    (p_one (p_ret (e_sl (e_add (e_add (e_sl (ev 0 rfl (.inl rfl)) p_no (p_e (ev 3 rfl (.inl rfl)))) (ev 5 rfl (.inl rfl))) (e_sl (ev 0 rfl (.inl rfl)) (p_e (ev 4 rfl (.inl rfl))) p_no)) p_no (p_e e_int)))))))
theorem ok10 (T : Txt K mg fa fd) : FnOk P w K mg base (L2.CX P w) 3 (fa 10) (fd 10) ["_law_script", "_law_k", "_law_base", "_law_pool"] (spX K cm S_k23._law_drawn) :=
  fn_x (N := ["_law_script", "_law_k", "_law_base", "_law_pool", "_law_cell", "_law_way", "_law_found"]) (ps := ["_law_script", "_law_k", "_law_base", "_law_pool"]) (b := S_k23._law_drawn_b) rfl T.d10.F sc10 fun cdv A outer s H E W hr =>
    (p_cons (p_set (i := 4) sc10.nd rfl (Or.inl rfl) (e_o (o_call (ok5 T) (hr.mono (by decide)) rfl T.d5.g T.d5.F.kp T.d5.b (a_cons (ev 0 rfl (.inl rfl)) (a_cons (ev 1 rfl (.inl rfl)) a_nil)))))
    (p_cons (p_set (i := 5) sc10.nd rfl (Or.inl rfl) (e_mod (e_o (o_call (ok6 T) (hr.mono (by decide)) rfl T.d6.g T.d6.F.kp T.d6.b (a_cons (e_o (o_call (ok5 T) (hr.mono (by decide)) rfl T.d5.g T.d5.F.kp T.d5.b (a_cons (ev 0 rfl (.inl rfl)) (a_cons e_int a_nil)))) (a_cons (ev 1 rfl (.inl rfl)) a_nil)))) e_int))
    (p_cons (p_if (t_eq hr.units (ev 5 rfl (.inl rfl)) e_int) (p_one (p_ret (e_o (o_call (ok8 T) (hr.mono (by decide)) rfl T.d8.g T.d8.F.kp T.d8.b (a_cons (ev 4 rfl (.inl rfl)) (a_cons (ev 3 rfl (.inl rfl)) a_nil)))))) p_nil)
    (p_cons (p_if (t_eq hr.units (ev 5 rfl (.inl rfl)) e_int) (p_one (p_ret (e_list rfl T.z_list (a_cons (ev 2 rfl (.inl rfl)) a_nil)))) p_nil)
    (p_cons (p_set (i := 6) sc10.nd rfl (Or.inl rfl) (e_o (o_call (ok9 T) (hr.mono (by decide)) rfl T.d9.g T.d9.F.kp T.d9.b (a_cons (ev 2 rfl (.inl rfl)) (a_cons (ev 4 rfl (.inl rfl)) (a_cons (ev 3 rfl (.inl rfl)) a_nil))))))
    (p_cons (p_if (t_lt (ev 5 rfl (.inl rfl)) e_int) (p_one (p_set (i := 6) sc10.nd rfl (Or.inl rfl) (e_o (o_call (ok9 T) (hr.mono (by decide)) rfl T.d9.g T.d9.F.kp T.d9.b (a_cons (ev 6 rfl (.inl rfl)) (a_cons (e_o (o_call (ok5 T) (hr.mono (by decide)) rfl T.d5.g T.d5.F.kp T.d5.b (a_cons (ev 0 rfl (.inl rfl)) (a_cons (e_add (ev 1 rfl (.inl rfl)) e_int) a_nil)))) (a_cons (ev 3 rfl (.inl rfl)) a_nil))))))) p_nil)
    (p_one (p_ret (ev 6 rfl (.inl rfl))))))))))
theorem ok11 (T : Txt K mg fa fd) : FnOk P w K mg base (L2.CX P w) 1 (fa 11) (fd 11) ["_law_base", "_law_other"] (spX K cm S_k23._law_middle) :=
  fn_x (N := ["_law_base", "_law_other", "_law_start", "_law_behind"]) (ps := ["_law_base", "_law_other"]) (b := S_k23._law_middle_b) rfl T.d11.F sc11 fun cdv A outer s H E W hr =>
    (p_cons (p_set (i := 2) sc11.nd rfl (Or.inl rfl) e_int)
    (p_cons (p_while 100000 PassesOwn.never (L2.PW.pt (w_and (t_lt (ev 2 rfl (.inl rfl)) (e_min rfl rfl T.z_min (a_cons (e_len rfl T.z_len (a_cons (ev 0 rfl (.inl rfl)) a_nil)) (a_cons (e_len rfl T.z_len (a_cons (ev 1 rfl (.inl rfl)) a_nil)) a_nil)))) (w_and1 (t_eq hr.units (e_sub' (hu_of hr) (ev 0 rfl (.inl rfl)) (ev 2 rfl (.inl rfl))) (e_sub' (hu_of hr) (ev 1 rfl (.inl rfl)) (ev 2 rfl (.inl rfl))))))) (p_one (p_set (i := 2) sc11.nd rfl (Or.inl rfl) (e_add (ev 2 rfl (.inl rfl)) e_int))))
    (p_cons (p_set (i := 3) sc11.nd rfl (Or.inl rfl) e_int)
    (p_cons (p_while 100000 PassesOwn.never (L2.PW.pt (w_and (t_lt (ev 3 rfl (.inl rfl)) (e_sub (e_min rfl rfl T.z_min (a_cons (e_len rfl T.z_len (a_cons (ev 0 rfl (.inl rfl)) a_nil)) (a_cons (e_len rfl T.z_len (a_cons (ev 1 rfl (.inl rfl)) a_nil)) a_nil))) (ev 2 rfl (.inl rfl)))) (w_and1 (t_eq hr.units (e_sub' (hu_of hr) (ev 0 rfl (.inl rfl)) (e_sub (e_neg e_int) (ev 3 rfl (.inl rfl)))) (e_sub' (hu_of hr) (ev 1 rfl (.inl rfl)) (e_sub (e_neg e_int) (ev 3 rfl (.inl rfl)))))))) (p_one (p_set (i := 3) sc11.nd rfl (Or.inl rfl) (e_add (ev 3 rfl (.inl rfl)) e_int))))
    (p_one (p_ret (e_sl (ev 1 rfl (.inl rfl)) (p_e (ev 2 rfl (.inl rfl))) (p_e (e_sub (e_len rfl T.z_len (a_cons (ev 1 rfl (.inl rfl)) a_nil)) (ev 3 rfl (.inl rfl)))))))))))
theorem ok12 (T : Txt K mg fa fd) : FnOk P w K mg base (L2.CX P w) 1 (fa 12) (fd 12) ["_law_lines", "_law_some"] (spX K cm S_k23._law_stand_in) :=
  fn_x (N := ["_law_lines", "_law_some", "_law_k"]) (ps := ["_law_lines", "_law_some"]) (b := S_k23._law_stand_in_b) rfl T.d12.F sc12 fun cdv A outer s H E W hr =>
    (p_cons (p_for PassesOwn.never rfl (i_range1 rfl T.z_range (a_cons (e_add (e_sub (e_len rfl T.z_len (a_cons (ev 0 rfl (.inl rfl)) a_nil)) (e_len rfl T.z_len (a_cons (ev 1 rfl (.inl rfl)) a_nil))) e_int) a_nil)) (g_name (i := 2) sc12.nd rfl (Or.inl rfl)) (p_one (p_if (t_eq hr.units (e_sl (ev 0 rfl (.inl rfl)) (p_e (ev 2 rfl (.inl rfl))) (p_e (e_add (ev 2 rfl (.inl rfl)) (e_len rfl T.z_len (a_cons (ev 1 rfl (.inl rfl)) a_nil))))) (ev 1 rfl (.inl rfl))) (p_one (p_ret e_bl)) p_nil)))
    (p_one (p_ret e_bl)))
theorem ok13 (T : Txt K mg fa fd) : FnOk P w K mg base (L2.CX P w) 2 (fa 13) (fd 13) ["_law_base", "_law_own", "_law_new", "_law_lines"] (spX K cm S_k23._law_apart) :=
  fn_x (N := ["_law_base", "_law_own", "_law_new", "_law_lines", "_law_line_here"]) (ps := ["_law_base", "_law_own", "_law_new", "_law_lines"]) (b := S_k23._law_apart_b) rfl T.d13.F sc13 fun cdv A outer s H E W hr =>
    (p_cons (p_if (L2.PW.pt (w_and (t_ne hr.units (ev 1 rfl (.inr (.inl rfl))) (ev 0 rfl (.inl rfl))) (w_and1 (t_not (t_val (e_o (o_call (ok12 T) (hr.mono (by decide)) rfl T.d12.g T.d12.F.kp T.d12.b (a_cons (ev 3 rfl (.inl rfl)) (a_cons (e_o (o_call (ok11 T) (hr.mono (by decide)) rfl T.d11.g T.d11.F.kp T.d11.b (a_cons (ev 0 rfl (.inl rfl)) (a_cons (ev 1 rfl (.inr (.inl rfl))) a_nil)))) a_nil))))))))) (p_one (p_ret e_bl)) p_nil)
    (p_cons (p_if (L2.PW.pt (w_and (t_ne hr.units (ev 1 rfl (.inr (.inl rfl))) (ev 0 rfl (.inl rfl))) (w_and (t_ne hr.units (ev 2 rfl (.inr (.inl rfl))) (ev 0 rfl (.inl rfl))) (w_and1 (t_not (t_val (e_o (o_call (ok12 T) (hr.mono (by decide)) rfl T.d12.g T.d12.F.kp T.d12.b (a_cons (ev 3 rfl (.inl rfl)) (a_cons (e_o (o_call (ok11 T) (hr.mono (by decide)) rfl T.d11.g T.d11.F.kp T.d11.b (a_cons (ev 0 rfl (.inl rfl)) (a_cons (ev 2 rfl (.inr (.inl rfl))) a_nil)))) a_nil)))))))))) (p_one (p_ret e_bl)) p_nil)
    (p_one (p_ret (e_eq hr.units (e_lc (own := [("_law_line_here", 4)]) (vs := [4]) rfl rfl sc13.nd (i_seq (ev 3 rfl (.inl rfl))) (blkOk_by (N := ["_law_base", "_law_own", "_law_new", "_law_lines", "_law_line_here"]) (sc := defScope s13) (own := [("_law_line_here", 4)]) (by decide +kernel)) (by decide) (fun _ _ _ _ _ => (g_name (i := 4) sc13.nd rfl (Or.inl rfl))) (fun _ _ _ _ _ => (ts_one (L2.PW.pt (w_and (t_nin (hu_of hr) (ev 4 rfl (.inl rfl)) (ev 1 rfl (.inr (.inl rfl)))) (w_and1 (t_nin (hu_of hr) (ev 4 rfl (.inl rfl)) (ev 2 rfl (.inr (.inl rfl))))))))) (fun _ _ _ _ _ => (ev 4 rfl (.inl rfl)))) (e_lst a_nil))))))
theorem ok14 (T : Txt K mg fa fd) : FnOk P w K mg base (L2.CX P w) 4 (fa 14) (fd 14) ["_law_script"] (spX K cm S_k23.law) :=
  fn_x (N := ["_law_script", "_law_pool", "_law_base", "_law_own", "_law_new", "_law_lines", "_law_beside", "_law_turned", "_law_other", "_law_j"]) (ps := ["_law_script"]) (b := S_k23.law_b) rfl T.d14.F sc14 fun cdv A outer s H E W hr =>
    (p_cons (p_setLc (own := [("_law_j", 9)]) (vs := [9]) (i := 1) rfl rfl sc14.nd rfl rfl (sw_true rfl rfl rfl (by decide +kernel)) (i_range1 rfl T.z_range (a_cons e_int a_nil)) (blkOk_by (N := ["_law_script", "_law_pool", "_law_base", "_law_own", "_law_new", "_law_lines", "_law_beside", "_law_turned", "_law_other", "_law_j"]) (sc := defScope s14) (own := [("_law_j", 9)]) (by decide +kernel)) (by decide) (fun _ _ _ _ _ => (g_name (i := 9) sc14.nd rfl (Or.inl rfl))) (fun _ _ _ _ _ => ts_yes) (fun _ _ _ _ _ => (e_o (o_call (ok7 T) (hr.mono (by decide)) rfl T.d7.g T.d7.F.kp T.d7.b (a_cons (e_o (o_call (ok5 T) (hr.mono (by decide)) rfl T.d5.g T.d5.F.kp T.d5.b (a_cons (ev 0 rfl (.inr (.inl rfl))) (a_cons e_int a_nil)))) (a_cons (ev 9 rfl (.inl rfl)) a_nil))))))
    (p_cons (p_set (i := 2) sc14.nd rfl (Or.inl rfl) (e_o (o_call (ok8 T) (hr.mono (by decide)) rfl T.d8.g T.d8.F.kp T.d8.b (a_cons (e_o (o_call (ok5 T) (hr.mono (by decide)) rfl T.d5.g T.d5.F.kp T.d5.b (a_cons (ev 0 rfl (.inr (.inl rfl))) (a_cons e_int a_nil)))) (a_cons (ev 1 rfl (.inl rfl)) a_nil)))))
    (p_cons (p_set (i := 3) sc14.nd rfl (Or.inl rfl) (e_o (o_call (ok10 T) (hr.mono (by decide)) rfl T.d10.g T.d10.F.kp T.d10.b (a_cons (ev 0 rfl (.inr (.inl rfl))) (a_cons e_int (a_cons (ev 2 rfl (.inl rfl)) (a_cons (ev 1 rfl (.inl rfl)) a_nil)))))))
    (p_cons (p_set (i := 4) sc14.nd rfl (Or.inl rfl) (e_o (o_call (ok10 T) (hr.mono (by decide)) rfl T.d10.g T.d10.F.kp T.d10.b (a_cons (ev 0 rfl (.inr (.inl rfl))) (a_cons e_int (a_cons (ev 2 rfl (.inl rfl)) (a_cons (ev 1 rfl (.inl rfl)) a_nil)))))))
    (p_cons (p_if (t_eq hr.units (e_mod (e_o (o_call (ok6 T) (hr.mono (by decide)) rfl T.d6.g T.d6.F.kp T.d6.b (a_cons (e_o (o_call (ok5 T) (hr.mono (by decide)) rfl T.d5.g T.d5.F.kp T.d5.b (a_cons (ev 0 rfl (.inr (.inl rfl))) (a_cons e_int a_nil)))) (a_cons e_int a_nil)))) e_int) e_int) (p_one (p_set (i := 4) sc14.nd rfl (Or.inl rfl) (e_list rfl T.z_list (a_cons (ev 3 rfl (.inl rfl)) a_nil)))) p_nil)
    (p_cons (p_setT (e_o (o_call (ok4 T) (hr.mono (by decide)) rfl T.d4.g T.d4.F.kp T.d4.b (a_cons (e_list rfl T.z_list (a_cons (ev 2 rfl (.inl rfl)) a_nil)) (a_cons (e_list rfl T.z_list (a_cons (ev 3 rfl (.inl rfl)) a_nil)) (a_cons (e_list rfl T.z_list (a_cons (ev 4 rfl (.inl rfl)) a_nil)) a_nil))))) (g_tup rfl (gs_cons (g_name (i := 5) sc14.nd rfl (Or.inl rfl)) (gs_cons (g_name (i := 6) sc14.nd rfl (Or.inl rfl)) gs_nil))))
    (p_cons (p_setT (e_o (o_call (ok4 T) (hr.mono (by decide)) rfl T.d4.g T.d4.F.kp T.d4.b (a_cons (e_list rfl T.z_list (a_cons (ev 2 rfl (.inl rfl)) a_nil)) (a_cons (e_list rfl T.z_list (a_cons (ev 4 rfl (.inl rfl)) a_nil)) (a_cons (e_list rfl T.z_list (a_cons (ev 3 rfl (.inl rfl)) a_nil)) a_nil))))) (g_tup rfl (gs_cons (g_name (i := 7) sc14.nd rfl (Or.inl rfl)) (gs_cons (g_name (i := 8) sc14.nd rfl (Or.inl rfl)) gs_nil))))
    (p_cons (p_if (t_ne hr.units (e_isN (ev 6 rfl (.inl rfl))) (e_isN (ev 8 rfl (.inl rfl)))) (p_one (p_ret e_bl)) p_nil)
    (p_cons (p_if (t_notN (ev 6 rfl (.inl rfl))) (p_one (p_ret (v_and (e_eq hr.units (ev 6 rfl (.inl rfl)) (ev 3 rfl (.inl rfl))) (v_and (e_eq hr.units (ev 5 rfl (.inl rfl)) (ev 4 rfl (.inl rfl))) (v_and (e_eq hr.units (ev 8 rfl (.inl rfl)) (ev 4 rfl (.inl rfl))) (v_one (e_eq hr.units (ev 7 rfl (.inl rfl)) (ev 3 rfl (.inl rfl))))))))) p_nil)
    (p_one (p_ret (v_and (e_eq hr.units (ev 5 rfl (.inl rfl)) (ev 7 rfl (.inl rfl))) (v_one (e_o (o_call (ok13 T) (hr.mono (by decide)) rfl T.d13.g T.d13.F.kp T.d13.b (a_cons (ev 2 rfl (.inl rfl)) (a_cons (ev 3 rfl (.inl rfl)) (a_cons (ev 4 rfl (.inl rfl)) (a_cons (ev 5 rfl (.inl rfl)) a_nil)))))))))))))))))))
end
theorem all_mk {l : PySem.W.OpenLaw} {w : World} {K : PySem.W.Frag} {h : Heap} {mg : Str → Option Value} {fl : Addr} (X : K.In h) (G : h.Ns mainGlobals mg) (hfl : mg "law" = some (.ref fl))
    {f0 f1 f2 f3 f4 f5 f6 f7 f8 f9 f10 f11 f12 f13 f14 : Addr}
    {od0 an0 od1 an1 od2 an2 od3 an3 od4 an4 od5 an5 od6 an6 od7 an7 od8 an8 od9 an9 od10 an10 od11 an11 od12 an12 od13 an13 od14 an14 : Option Addr} {sl0 sl1 sl2 sl3 sl4 sl5 sl6 sl7 sl8 sl9 sl10 sl11 sl12 sl13 sl14 : Array (Option Value)}
    {oc0 kV0 dc0 pm0 cd0 ct0 oc1 kV1 dc1 pm1 cd1 ct1 oc2 kV2 dc2 pm2 cd2 ct2 oc3 kV3 dc3 pm3 cd3 ct3 oc4 kV4 dc4 pm4 cd4 ct4 oc5 kV5 dc5 pm5 cd5 ct5 oc6 kV6 dc6 pm6 cd6 ct6 oc7 kV7 dc7 pm7 cd7 ct7 oc8 kV8 dc8 pm8 cd8 ct8 oc9 kV9 dc9 pm9 cd9 ct9 oc10 kV10 dc10 pm10 cd10 ct10 oc11 kV11 dc11 pm11 cd11 ct11 oc12 kV12 dc12 pm12 cd12 ct12 oc13 kV13 dc13 pm13 cd13 ct13 oc14 kV14 dc14 pm14 cd14 ct14 : Value}
    (a0 : PySem.W.nsIn K mainGlobals "alike_lines" = some (some (.ref f0))) (l0 : K.lookup f0 = some ⟨oc0, od0, .func (PySem.W.fnOf "alike_lines" "alike_lines" (defArgs s0) (defBody s0) (defScope s0) .none kV0 dc0 pm0 an0 cd0 ct0), sl0⟩) (c0 : PySem.W.codeIn K cd0 "alike_lines" = true) (k0 : PySem.W.keepIn K (.ref f0) = true)
    (a1 : PySem.W.nsIn K mainGlobals "block_of" = some (some (.ref f1))) (l1 : K.lookup f1 = some ⟨oc1, od1, .func (PySem.W.fnOf "block_of" "block_of" (defArgs s1) (defBody s1) (defScope s1) .none kV1 dc1 pm1 an1 cd1 ct1), sl1⟩) (c1 : PySem.W.codeIn K cd1 "block_of" = true) (k1 : PySem.W.keepIn K (.ref f1) = true)
    (a2 : PySem.W.nsIn K mainGlobals "are_apart" = some (some (.ref f2))) (l2 : K.lookup f2 = some ⟨oc2, od2, .func (PySem.W.fnOf "are_apart" "are_apart" (defArgs s2) (defBody s2) (defScope s2) .none kV2 dc2 pm2 an2 cd2 ct2), sl2⟩) (c2 : PySem.W.codeIn K cd2 "are_apart" = true) (k2 : PySem.W.keepIn K (.ref f2) = true)
    (a3 : PySem.W.nsIn K mainGlobals "both_done" = some (some (.ref f3))) (l3 : K.lookup f3 = some ⟨oc3, od3, .func (PySem.W.fnOf "both_done" "both_done" (defArgs s3) (defBody s3) (defScope s3) .none kV3 dc3 pm3 an3 cd3 ct3), sl3⟩) (c3 : PySem.W.codeIn K cd3 "both_done" = true) (k3 : PySem.W.keepIn K (.ref f3) = true)
    (a4 : PySem.W.nsIn K mainGlobals "put_together" = some (some (.ref f4))) (l4 : K.lookup f4 = some ⟨oc4, od4, .func (PySem.W.fnOf "put_together" "put_together" (defArgs s4) (defBody s4) (defScope s4) .none kV4 dc4 pm4 an4 cd4 ct4), sl4⟩) (c4 : PySem.W.codeIn K cd4 "put_together" = true) (k4 : PySem.W.keepIn K (.ref f4) = true)
    (a5 : PySem.W.nsIn K mainGlobals "_law_cell_at" = some (some (.ref f5))) (l5 : K.lookup f5 = some ⟨oc5, od5, .func (PySem.W.fnOf "_law_cell_at" "_law_cell_at" (defArgs s5) (defBody s5) (defScope s5) .none kV5 dc5 pm5 an5 cd5 ct5), sl5⟩) (c5 : PySem.W.codeIn K cd5 "_law_cell_at" = true) (k5 : PySem.W.keepIn K (.ref f5) = true)
    (a6 : PySem.W.nsIn K mainGlobals "_law_mixed" = some (some (.ref f6))) (l6 : K.lookup f6 = some ⟨oc6, od6, .func (PySem.W.fnOf "_law_mixed" "_law_mixed" (defArgs s6) (defBody s6) (defScope s6) .none kV6 dc6 pm6 an6 cd6 ct6), sl6⟩) (c6 : PySem.W.codeIn K cd6 "_law_mixed" = true) (k6 : PySem.W.keepIn K (.ref f6) = true)
    (a7 : PySem.W.nsIn K mainGlobals "_law_line" = some (some (.ref f7))) (l7 : K.lookup f7 = some ⟨oc7, od7, .func (PySem.W.fnOf "_law_line" "_law_line" (defArgs s7) (defBody s7) (defScope s7) .none kV7 dc7 pm7 an7 cd7 ct7), sl7⟩) (c7 : PySem.W.codeIn K cd7 "_law_line" = true) (k7 : PySem.W.keepIn K (.ref f7) = true)
    (a8 : PySem.W.nsIn K mainGlobals "_law_list" = some (some (.ref f8))) (l8 : K.lookup f8 = some ⟨oc8, od8, .func (PySem.W.fnOf "_law_list" "_law_list" (defArgs s8) (defBody s8) (defScope s8) .none kV8 dc8 pm8 an8 cd8 ct8), sl8⟩) (c8 : PySem.W.codeIn K cd8 "_law_list" = true) (k8 : PySem.W.keepIn K (.ref f8) = true)
    (a9 : PySem.W.nsIn K mainGlobals "_law_changed" = some (some (.ref f9))) (l9 : K.lookup f9 = some ⟨oc9, od9, .func (PySem.W.fnOf "_law_changed" "_law_changed" (defArgs s9) (defBody s9) (defScope s9) .none kV9 dc9 pm9 an9 cd9 ct9), sl9⟩) (c9 : PySem.W.codeIn K cd9 "_law_changed" = true) (k9 : PySem.W.keepIn K (.ref f9) = true)
    (a10 : PySem.W.nsIn K mainGlobals "_law_drawn" = some (some (.ref f10))) (l10 : K.lookup f10 = some ⟨oc10, od10, .func (PySem.W.fnOf "_law_drawn" "_law_drawn" (defArgs s10) (defBody s10) (defScope s10) .none kV10 dc10 pm10 an10 cd10 ct10), sl10⟩) (c10 : PySem.W.codeIn K cd10 "_law_drawn" = true) (k10 : PySem.W.keepIn K (.ref f10) = true)
    (a11 : PySem.W.nsIn K mainGlobals "_law_middle" = some (some (.ref f11))) (l11 : K.lookup f11 = some ⟨oc11, od11, .func (PySem.W.fnOf "_law_middle" "_law_middle" (defArgs s11) (defBody s11) (defScope s11) .none kV11 dc11 pm11 an11 cd11 ct11), sl11⟩) (c11 : PySem.W.codeIn K cd11 "_law_middle" = true) (k11 : PySem.W.keepIn K (.ref f11) = true)
    (a12 : PySem.W.nsIn K mainGlobals "_law_stand_in" = some (some (.ref f12))) (l12 : K.lookup f12 = some ⟨oc12, od12, .func (PySem.W.fnOf "_law_stand_in" "_law_stand_in" (defArgs s12) (defBody s12) (defScope s12) .none kV12 dc12 pm12 an12 cd12 ct12), sl12⟩) (c12 : PySem.W.codeIn K cd12 "_law_stand_in" = true) (k12 : PySem.W.keepIn K (.ref f12) = true)
    (a13 : PySem.W.nsIn K mainGlobals "_law_apart" = some (some (.ref f13))) (l13 : K.lookup f13 = some ⟨oc13, od13, .func (PySem.W.fnOf "_law_apart" "_law_apart" (defArgs s13) (defBody s13) (defScope s13) .none kV13 dc13 pm13 an13 cd13 ct13), sl13⟩) (c13 : PySem.W.codeIn K cd13 "_law_apart" = true) (k13 : PySem.W.keepIn K (.ref f13) = true)
    (a14 : PySem.W.nsIn K mainGlobals "law" = some (some (.ref f14))) (l14 : K.lookup f14 = some ⟨oc14, od14, .func (PySem.W.fnOf "law" "law" (defArgs s14) (defBody s14) (defScope s14) .none kV14 dc14 pm14 an14 cd14 ct14), sl14⟩) (c14 : PySem.W.codeIn K cd14 "law" = true) (k14 : PySem.W.keepIn K (.ref f14) = true)
    (z_len : PySem.W.nsIn K mainGlobals "len" = some none) (z_list : PySem.W.nsIn K mainGlobals "list" = some none) (z_min : PySem.W.nsIn K mainGlobals "min" = some none) (z_range : PySem.W.nsIn K mainGlobals "range" = some none) :
    ∃ fd : FuncData, (∀ (s : Shared) (v : Value), BindsTo s fd ⟨[v], []⟩ [("_law_script", v)]) ∧ ∀ base : Heap, K.In base → base.Ns mainGlobals mg → FnOk l.prog w K mg base (L2.CX l.prog w) 4 fl fd ["_law_script"] (spX K (fun _ => 0) S_k23.law) := by
  have e := hfl.symm.trans (PySem.W.mg_of X G a14)
  cases e
  have F0 := fun_mk (st := s0) l0 c0 k0
  have b0 := F0.binds (ps := ["one", "other", "most"]) fun _ _ _ _ _ _ us hl => match us, hl with | [_, _, _], _ => rfl
  have F1 := fun_mk (st := s1) l1 c1 k1
  have b1 := F1.binds (ps := ["base", "other"]) fun _ _ _ _ _ _ us hl => match us, hl with | [_, _], _ => rfl
  have F2 := fun_mk (st := s2) l2 c2 k2
  have b2 := F2.binds (ps := ["one", "other"]) fun _ _ _ _ _ _ us hl => match us, hl with | [_, _], _ => rfl
  have F3 := fun_mk (st := s3) l3 c3 k3
  have b3 := F3.binds (ps := ["base", "one", "other"]) fun _ _ _ _ _ _ us hl => match us, hl with | [_, _, _], _ => rfl
  have F4 := fun_mk (st := s4) l4 c4 k4
  have b4 := F4.binds (ps := ["base", "own", "new"]) fun _ _ _ _ _ _ us hl => match us, hl with | [_, _, _], _ => rfl
  have F5 := fun_mk (st := s5) l5 c5 k5
  have b5 := F5.binds (ps := ["_law_script", "_law_k"]) fun _ _ _ _ _ _ us hl => match us, hl with | [_, _], _ => rfl
  have F6 := fun_mk (st := s6) l6 c6 k6
  have b6 := F6.binds (ps := ["_law_cell", "_law_k"]) fun _ _ _ _ _ _ us hl => match us, hl with | [_, _], _ => rfl
  have F7 := fun_mk (st := s7) l7 c7 k7
  have b7 := F7.binds (ps := ["_law_cell", "_law_j"]) fun _ _ _ _ _ _ us hl => match us, hl with | [_, _], _ => rfl
  have F8 := fun_mk (st := s8) l8 c8 k8
  have b8 := F8.binds (ps := ["_law_cell", "_law_pool"]) fun _ _ _ _ _ _ us hl => match us, hl with | [_, _], _ => rfl
  have F9 := fun_mk (st := s9) l9 c9 k9
  have b9 := F9.binds (ps := ["_law_base", "_law_cell", "_law_pool"]) fun _ _ _ _ _ _ us hl => match us, hl with | [_, _, _], _ => rfl
  have F10 := fun_mk (st := s10) l10 c10 k10
  have b10 := F10.binds (ps := ["_law_script", "_law_k", "_law_base", "_law_pool"]) fun _ _ _ _ _ _ us hl => match us, hl with | [_, _, _, _], _ => rfl
  have F11 := fun_mk (st := s11) l11 c11 k11
  have b11 := F11.binds (ps := ["_law_base", "_law_other"]) fun _ _ _ _ _ _ us hl => match us, hl with | [_, _], _ => rfl
  have F12 := fun_mk (st := s12) l12 c12 k12
  have b12 := F12.binds (ps := ["_law_lines", "_law_some"]) fun _ _ _ _ _ _ us hl => match us, hl with | [_, _], _ => rfl
  have F13 := fun_mk (st := s13) l13 c13 k13
  have b13 := F13.binds (ps := ["_law_base", "_law_own", "_law_new", "_law_lines"]) fun _ _ _ _ _ _ us hl => match us, hl with | [_, _, _, _], _ => rfl
  have F14 := fun_mk (st := s14) l14 c14 k14
  have b14 := F14.binds (ps := ["_law_script"]) fun _ _ _ _ _ _ us hl => match us, hl with | [_], _ => rfl
  let fa : Nat → Addr := fun i => match i with
    | 0 => f0
    | 1 => f1
    | 2 => f2
    | 3 => f3
    | 4 => f4
    | 5 => f5
    | 6 => f6
    | 7 => f7
    | 8 => f8
    | 9 => f9
    | 10 => f10
    | 11 => f11
    | 12 => f12
    | 13 => f13
    | 14 => fl
    | _ => 0
  let fd : Nat → FuncData := fun i => match i with
    | 0 => PySem.W.fnOf "alike_lines" "alike_lines" (defArgs s0) (defBody s0) (defScope s0) .none kV0 dc0 pm0 an0 cd0 ct0
    | 1 => PySem.W.fnOf "block_of" "block_of" (defArgs s1) (defBody s1) (defScope s1) .none kV1 dc1 pm1 an1 cd1 ct1
    | 2 => PySem.W.fnOf "are_apart" "are_apart" (defArgs s2) (defBody s2) (defScope s2) .none kV2 dc2 pm2 an2 cd2 ct2
    | 3 => PySem.W.fnOf "both_done" "both_done" (defArgs s3) (defBody s3) (defScope s3) .none kV3 dc3 pm3 an3 cd3 ct3
    | 4 => PySem.W.fnOf "put_together" "put_together" (defArgs s4) (defBody s4) (defScope s4) .none kV4 dc4 pm4 an4 cd4 ct4
    | 5 => PySem.W.fnOf "_law_cell_at" "_law_cell_at" (defArgs s5) (defBody s5) (defScope s5) .none kV5 dc5 pm5 an5 cd5 ct5
    | 6 => PySem.W.fnOf "_law_mixed" "_law_mixed" (defArgs s6) (defBody s6) (defScope s6) .none kV6 dc6 pm6 an6 cd6 ct6
    | 7 => PySem.W.fnOf "_law_line" "_law_line" (defArgs s7) (defBody s7) (defScope s7) .none kV7 dc7 pm7 an7 cd7 ct7
    | 8 => PySem.W.fnOf "_law_list" "_law_list" (defArgs s8) (defBody s8) (defScope s8) .none kV8 dc8 pm8 an8 cd8 ct8
    | 9 => PySem.W.fnOf "_law_changed" "_law_changed" (defArgs s9) (defBody s9) (defScope s9) .none kV9 dc9 pm9 an9 cd9 ct9
    | 10 => PySem.W.fnOf "_law_drawn" "_law_drawn" (defArgs s10) (defBody s10) (defScope s10) .none kV10 dc10 pm10 an10 cd10 ct10
    | 11 => PySem.W.fnOf "_law_middle" "_law_middle" (defArgs s11) (defBody s11) (defScope s11) .none kV11 dc11 pm11 an11 cd11 ct11
    | 12 => PySem.W.fnOf "_law_stand_in" "_law_stand_in" (defArgs s12) (defBody s12) (defScope s12) .none kV12 dc12 pm12 an12 cd12 ct12
    | 13 => PySem.W.fnOf "_law_apart" "_law_apart" (defArgs s13) (defBody s13) (defScope s13) .none kV13 dc13 pm13 an13 cd13 ct13
    | 14 => PySem.W.fnOf "law" "law" (defArgs s14) (defBody s14) (defScope s14) .none kV14 dc14 pm14 an14 cd14 ct14
    | _ => PySem.W.fnOf "law" "law" (defArgs s14) (defBody s14) (defScope s14) .none kV14 dc14 pm14 an14 cd14 ct14
  have T : Txt K mg fa fd := ⟨⟨F0, PySem.W.mg_of X G a0, b0⟩, ⟨F1, PySem.W.mg_of X G a1, b1⟩, ⟨F2, PySem.W.mg_of X G a2, b2⟩, ⟨F3, PySem.W.mg_of X G a3, b3⟩, ⟨F4, PySem.W.mg_of X G a4, b4⟩, ⟨F5, PySem.W.mg_of X G a5, b5⟩, ⟨F6, PySem.W.mg_of X G a6, b6⟩, ⟨F7, PySem.W.mg_of X G a7, b7⟩, ⟨F8, PySem.W.mg_of X G a8, b8⟩, ⟨F9, PySem.W.mg_of X G a9, b9⟩, ⟨F10, PySem.W.mg_of X G a10, b10⟩, ⟨F11, PySem.W.mg_of X G a11, b11⟩, ⟨F12, PySem.W.mg_of X G a12, b12⟩, ⟨F13, PySem.W.mg_of X G a13, b13⟩, ⟨F14, PySem.W.mg_of X G a14, b14⟩, PySem.W.mg_none_of X G z_len, PySem.W.mg_none_of X G z_list, PySem.W.mg_none_of X G z_min, PySem.W.mg_none_of X G z_range⟩
  exact ⟨PySem.W.fnOf "law" "law" (defArgs s14) (defBody s14) (defScope s14) .none kV14 dc14 pm14 an14 cd14 ct14, fun s v => .of_eq rfl, fun base _ _ => ok14 T⟩
end K23
end Pq

open PySem PySem.W PyProof.Rows
set_option maxHeartbeats 0 in
theorem PySem.Challenge.cw_parcelmend_k23_whole_nothing_is_lost_holds : PySem.Challenge.rw_parcelmend_k23_whole_nothing_is_lost.Holds := by
  w_on; o_law; k_head; (case hw => w_witness2)
  k_fill
  refine L2.walk_of (l := PySem.Challenge.rw_parcelmend_k23_whole_nothing_is_lost) (n := 63) (k := 4) (x := "_law_script") (CX := fun w => L2.CX PySem.Challenge.rw_parcelmend_k23_whole_nothing_is_lost.prog w) (sp := fun w => Pq.spX _ (fun _ => 0) Pq.S_k23.law) rfl (by decide) rfl ⟨rfl, by decide, by decide⟩ (fun w h Y => PySem.W.kIn_of Y) ?F (fun w H a ns hl hO hS => Pq.law_in Pq.K23_law_true hl hS) (fun w H s e s' h => Pq.law_out h)
  case F =>
    intro w mg fa h KX G hmg
    refine' Pq.K23.all_mk KX G hmg ?a0 ?l0 ?c0 ?k0 ?a1 ?l1 ?c1 ?k1 ?a2 ?l2 ?c2 ?k2 ?a3 ?l3 ?c3 ?k3 ?a4 ?l4 ?c4 ?k4 ?a5 ?l5 ?c5 ?k5 ?a6 ?l6 ?c6 ?k6 ?a7 ?l7 ?c7 ?k7 ?a8 ?l8 ?c8 ?k8 ?a9 ?l9 ?c9 ?k9 ?a10 ?l10 ?c10 ?k10 ?a11 ?l11 ?c11 ?k11 ?a12 ?l12 ?c12 ?k12 ?a13 ?l13 ?c13 ?k13 ?a14 ?l14 ?c14 ?k14 ?z_len ?z_list ?z_min ?z_range
    (case a0 => k_is); (case l0 => k_is); (case c0 => k_is); (case k0 => k_is); (case a1 => k_is); (case l1 => k_is)
    (case c1 => k_is); (case k1 => k_is); (case a2 => k_is); (case l2 => k_is); (case c2 => k_is); (case k2 => k_is)
    (case a3 => k_is); (case l3 => k_is); (case c3 => k_is); (case k3 => k_is); (case a4 => k_is); (case l4 => k_is)
    (case c4 => k_is); (case k4 => k_is); (case a5 => k_is); (case l5 => k_is); (case c5 => k_is); (case k5 => k_is)
    (case a6 => k_is); (case l6 => k_is); (case c6 => k_is); (case k6 => k_is); (case a7 => k_is); (case l7 => k_is)
    (case c7 => k_is); (case k7 => k_is); (case a8 => k_is); (case l8 => k_is); (case c8 => k_is); (case k8 => k_is)
    (case a9 => k_is); (case l9 => k_is); (case c9 => k_is); (case k9 => k_is); (case a10 => k_is); (case l10 => k_is)
    (case c10 => k_is); (case k10 => k_is); (case a11 => k_is); (case l11 => k_is); (case c11 => k_is); (case k11 => k_is)
    (case a12 => k_is); (case l12 => k_is); (case c12 => k_is); (case k12 => k_is); (case a13 => k_is); (case l13 => k_is)
    (case c13 => k_is); (case k13 => k_is); (case a14 => k_is); (case l14 => k_is); (case c14 => k_is); (case k14 => k_is)
    (case z_len => k_is); (case z_list => k_is); (case z_min => k_is); (case z_range => k_is)

