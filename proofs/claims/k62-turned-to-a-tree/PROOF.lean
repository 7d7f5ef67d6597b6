import PyProof.Rows.All
import Wide.All
import OpenK.AllK
import Wide.FinOn
import HandS.ForMost
import HandS.ForExc
import KE.KEqNest
import PyProof.NeKinds
import HandS.Style
import HandS.IsInst
import HandS.Text
import KE.DataCmp
import KE.SortData
import KE.SortKeyHeap
import HandS.SortKw
import HandS.More
import KE.KEqDict
import KE.DataEq
import HandS.TupLe
import PyProof.StrBlock2
import HandS.CallSlots
import HandS.TryOnly
import HandS.Finally
import KE.KDictSum
import HandS.Deep
import HandS.SetKeys
import HandS.Codes
import HandS.DictTup
import KE.KDictItemsList
import HandS.ExcOwn
import HandS.ExcIs
import HandS.SetTxt0
import HandS.SetFor
import PySem.Challenge.RW_parcelmend_k62_turned_to_a_tree
set_option Elab.async false
set_option linter.all false
set_option maxRecDepth 100000
set_option maxHeartbeats 4000000
namespace Pq
open PySem PySem.Spec PyProof.Rows L2

/-! ### data: what a value is, whole, as long as nobody changes it -/
inductive Dat where
  | non | bl (b : Bool) | int (i : Int) | str (x : Str)
  | tup (xs : List Dat) | lst (xs : List Dat)
  | dct (ks : List Key) (xs : List Dat)
  | obj (c : Str) (fs : List Str) (xs : List Dat)
  | scr (xs : List Dat)
  | cel (k : Nat)
/-- what a cell of the store holds -/
inductive Cel where
  | lst (xs : List Dat)
  | dct (ks : List Key) (xs : List Dat)
  | obj (c : Str) (fs : List Str) (xs : List Dat)
  | err (c : Str)
  | gone
abbrev Sto := List Cel
/-- where the classes stand, where the cells stand, what the cells hold -/
structure CM where
  c : Str → Addr
  t : Nat → Option Addr
  z : Sto
instance : CoeFun CM (fun _ => Str → Addr) := ⟨CM.c⟩

mutual
inductive R (K : PySem.W.Frag) (cm : CM) (F : Hp) : V → Dat → Prop
  | non : R K cm F .non .non
  | bl (b : Bool) : R K cm F (.bl b) (.bl b)
  | int (i : Int) : R K cm F (.int i) (.int i)
  | str (x : Str) : R K cm F (.str x) (.str x)
  | tup {a : Addr} {vs : List V} {xs : List Dat} : SqT K F a vs → Rs K cm F vs xs → R K cm F (.ref a) (.tup xs)
  | lst {a : Addr} {vs : List V} {xs : List Dat} : Rd F a (.lst vs) → Rs K cm F vs xs → R K cm F (.ref a) (.lst xs)
  | dct {a : Addr} {kvs : List (Key × V)} {ks : List Key} {xs : List Dat} : Rd F a (.dK kvs) → kvs.map (·.1) = ks → Rs K cm F (kvs.map (·.2)) xs → R K cm F (.ref a) (.dct ks xs)
  | obj {a dx : Addr} {c : Str} {fvs : List (Str × V)} {fs : List Str} {xs : List Dat} : F a = some (.ins (cm c) dx fvs) → fvs.map (·.1) = fs → Rs K cm F (fvs.map (·.2)) xs → R K cm F (.ref a) (.obj c fs xs)
  | scr {a : Addr} {vs : List V} {xs : List Dat} : SqL K F a vs → Rs K cm F vs xs → R K cm F (.ref a) (.scr xs)
  | cel {a : Addr} {k : Nat} : cm.t k = some a → R K cm F (.ref a) (.cel k)
inductive Rs (K : PySem.W.Frag) (cm : CM) (F : Hp) : List V → List Dat → Prop
  | nil : Rs K cm F [] []
  | cons {v : V} {vs : List V} {x : Dat} {xs : List Dat} : R K cm F v x → Rs K cm F vs xs → Rs K cm F (v :: vs) (x :: xs)
end

section
variable {K : PySem.W.Frag} {cm : CM} {F F' H H' : Hp}
theorem same_rd {a : Addr} {u : HO} (e : Same F F') (h : Rd F a u) : Rd F' a u := by
  rcases h with h | ⟨o, h⟩
  · exact .inl (e _ _ h)
  · exact .inr ⟨o, e _ _ h⟩
theorem same_sqT {a : Addr} {vs : List V} (e : Same F F') (h : SqT K F a vs) : SqT K F' a vs := by
  rcases h with (h | ⟨o, h⟩) | h
  · exact .inl (.inl (e _ _ h))
  · exact .inl (.inr ⟨o, e _ _ h⟩)
  · exact .inr h
mutual
theorem R.mono (e : Same F F') : ∀ {v : V} {x : Dat}, R K cm F v x → R K cm F' v x
  | _, _, .non => .non
  | _, _, .bl b => .bl b
  | _, _, .int i => .int i
  | _, _, .str x => .str x
  | _, _, .tup h r => .tup (same_sqT e h) (Rs.mono e r)
  | _, _, .lst h r => .lst (same_rd e h) (Rs.mono e r)
  | _, _, .dct h k r => .dct (same_rd e h) k (Rs.mono e r)
  | _, _, .obj h k r => .obj (e _ _ h) k (Rs.mono e r)
  | _, _, .scr h r => .scr (e.seq h) (Rs.mono e r)
  | _, _, .cel h => .cel h
theorem Rs.mono (e : Same F F') : ∀ {vs : List V} {xs : List Dat}, Rs K cm F vs xs → Rs K cm F' vs xs
  | _, _, .nil => .nil
  | _, _, .cons r t => .cons (R.mono e r) (Rs.mono e t)
end
theorem Rs.length : ∀ {vs : List V} {xs : List Dat}, Rs K cm F vs xs → vs.length = xs.length
  | _, _, .nil => rfl
  | _, _, .cons _ t => by rw [List.length_cons, List.length_cons, Rs.length t]
theorem Rs.get : ∀ {vs : List V} {xs : List Dat} {i : Nat} {x : Dat}, Rs K cm F vs xs → xs[i]? = some x → ∃ v, vs[i]? = some v ∧ R K cm F v x
  | _, _, _, _, .nil, e => by simp at e
  | _, _, 0, _, .cons r _, e => by simp at e; subst e; exact ⟨_, rfl, r⟩
  | _, _, i + 1, x, .cons _ t, e => by
    obtain ⟨v, h1, h2⟩ := Rs.get (i := i) (x := x) t (by simpa using e)
    exact ⟨v, by simpa using h1, h2⟩
theorem Rs.getV : ∀ {vs : List V} {xs : List Dat} {i : Nat} {v : V}, Rs K cm F vs xs → vs[i]? = some v → ∃ x, xs[i]? = some x ∧ R K cm F v x
  | _, _, _, _, .nil, e => by simp at e
  | _, _, 0, _, .cons r _, e => by simp at e; subst e; exact ⟨_, rfl, r⟩
  | _, _, i + 1, x, .cons _ t, e => by
    obtain ⟨v, h1, h2⟩ := Rs.getV (i := i) (v := x) t (by simpa using e)
    exact ⟨v, by simpa using h1, h2⟩
theorem Rs.append : ∀ {vs ws : List V} {xs ys : List Dat}, Rs K cm F vs xs → Rs K cm F ws ys → Rs K cm F (vs ++ ws) (xs ++ ys)
  | _, _, _, _, .nil, s => s
  | _, _, _, _, .cons r t, s => .cons r (Rs.append t s)
theorem Rs.drop : ∀ {vs : List V} {xs : List Dat} (n : Nat), Rs K cm F vs xs → Rs K cm F (vs.drop n) (xs.drop n)
  | _, _, 0, r => r
  | _, _, _ + 1, .nil => .nil
  | _, _, n + 1, .cons _ t => Rs.drop n t
theorem Rs.take : ∀ {vs : List V} {xs : List Dat} (n : Nat), Rs K cm F vs xs → Rs K cm F (vs.take n) (xs.take n)
  | _, _, 0, _ => .nil
  | _, _, _ + 1, .nil => .nil
  | _, _, n + 1, .cons r t => .cons r (Rs.take n t)
theorem Rs.reverse {vs : List V} {xs : List Dat} (h : Rs K cm F vs xs) : Rs K cm F vs.reverse xs.reverse := by
  induction vs generalizing xs with
  | nil => cases h; exact .nil
  | cons v vs ih =>
    cases h with
    | cons r t =>
      rw [List.reverse_cons, List.reverse_cons]
      exact (ih t).append (.cons r .nil)

/-! ### how a heap grows: F what is settled, H what stands -/
structure Ext (F H F' H' : Hp) : Prop where
  f : Same F F'
  h : Same H H'
  fh : Same F' H'
  new : ∀ a o, F' a = some o → F a = none → H a = none
theorem Ext.refl (e : Same F H) : Ext F H F H := ⟨Same.refl F, Same.refl H, e, fun a o h n => by rw [h] at n; cases n⟩
theorem Ext.trans {F1 H1 F2 H2 : Hp} (a : Ext F H F1 H1) (b : Ext F1 H1 F2 H2) : Ext F H F2 H2 :=
  ⟨a.f.trans b.f, a.h.trans b.h, b.fh, fun x o h n => by
    cases q : F1 x with
    | some u => exact a.new x u q n
    | none => exact a.h.free (b.new x o h q)⟩
theorem Ext.keepH {H2 : Hp} (a : Ext F H F' H') (b : Same H' H2) : Ext F H F' H2 := ⟨a.f, a.h.trans b, a.fh.trans b, a.new⟩
theorem same_new {p : Addr} {o : HO} (h : H p = none) : Same H (upd H p o) := fun a u e => by
  rw [upd_ne (ne_of_none e h)]
  exact e
/-- a settled object is laid -/
theorem Ext.laid (e : Same F H) {p : Addr} {o : HO} (h : H p = none) : Ext F H (upd F p o) (upd H p o) := by
  have hf : F p = none := e.free h
  refine ⟨same_new hf, same_new h, fun a u q => ?_, fun a u q n => ?_⟩
  · by_cases hp : a = p
    · subst hp
      rw [upd_same] at q ⊢
      exact q
    · rw [upd_ne hp] at q ⊢
      exact e a u q
  · by_cases hp : a = p
    · subst hp
      exact h
    · rw [upd_ne hp] at q
      rw [q] at n
      cases n
/-- an open object is laid -/
theorem Ext.open (e : Same F H) {p : Addr} {o : HO} (h : H p = none) : Ext F H F (upd H p o) := (Ext.refl e).keepH (same_new h)

/-! ### the store -/
/-- an error of the class at C that was caught and kept -/
def ErrO (C a : Addr) : HO := .ext fun h => ∃ oe vs, h.get? a = some oe ∧ oe.cls = .ref C ∧ oe.dict = none ∧ oe.data = .fields vs
inductive CelAt (K : PySem.W.Frag) (cm : CM) (F H : Hp) (a : Addr) : Cel → Prop
  | lst {vs : List V} {xs : List Dat} : H a = some (.lst vs) → Rs K cm F vs xs → CelAt K cm F H a (.lst xs)
  | dct {kvs : List (Key × V)} {ks : List Key} {xs : List Dat} : H a = some (.dK kvs) → kvs.map (·.1) = ks → Rs K cm F (kvs.map (·.2)) xs → CelAt K cm F H a (.dct ks xs)
  | obj {dx : Addr} {c : Str} {fvs : List (Str × V)} {fs : List Str} {xs : List Dat} : H a = some (.ins (cm c) dx fvs) → fvs.map (·.1) = fs → Rs K cm F (fvs.map (·.2)) xs → CelAt K cm F H a (.obj c fs xs)
  | err {c : Str} : H a = some (ErrO (cm c) a) → CelAt K cm F H a (.err c)
structure Cells (K : PySem.W.Frag) (cm : CM) (F H : Hp) : Prop where
  at_ : ∀ k c, cm.z[k]? = some c → ∃ a, cm.t k = some a ∧ (∃ o, H a = some o) ∧ (c ≠ .gone → F a = none ∧ CelAt K cm F H a c)
  inj : ∀ j k a, cm.t j = some a → cm.t k = some a → j = k
  dom : ∀ k a, cm.t k = some a → k < cm.z.length
theorem CelAt.keep {a : Addr} {c : Cel} (e : Same F F') (h : ∀ o, H a = some o → H' a = some o) : CelAt K cm F H a c → CelAt K cm F' H' a c
  | .lst h1 r => .lst (h _ h1) (r.mono e)
  | .dct h1 k r => .dct (h _ h1) k (r.mono e)
  | .obj h1 k r => .obj (h _ h1) k (r.mono e)
  | .err h1 => .err (h _ h1)
theorem CelAt.here {a : Addr} {c : Cel} : CelAt K cm F H a c → ∃ o, H a = some o
  | .lst h1 r => ⟨_, h1⟩
  | .dct h1 k r => ⟨_, h1⟩
  | .obj h1 k r => ⟨_, h1⟩
  | .err h1 => ⟨_, h1⟩
theorem Cells.ext (r : Cells K cm F H) (e : Ext F H F' H') : Cells K cm F' H' := ⟨fun k c h => by
  obtain ⟨a, h1, ⟨o, ho⟩, h2⟩ := r.at_ k c h
  refine ⟨a, h1, ⟨o, e.h _ _ ho⟩, fun hc => ?_⟩
  obtain ⟨h2, h3⟩ := h2 hc
  have n : F' a = none := by
    cases q : F' a with
    | none => rfl
    | some u =>
      have z := e.new a u q h2
      rw [ho] at z
      cases z
  exact ⟨n, h3.keep e.f fun o h => e.h _ _ h⟩, r.inj, r.dom⟩
theorem Cells.own_ (r : Cells K cm F H) {k : Nat} {a : Addr} (h : cm.t k = some a) : ∃ o, H a = some o := by
  have hk := r.dom k a h
  obtain ⟨b, h1, h2, h3⟩ := r.at_ k _ (List.getElem?_eq_getElem hk)
  rw [h] at h1
  cases h1
  exact h2
theorem Cells.put_ (r : Cells K cm F H) {b : Addr} {o : HO} (hb : ∀ k, cm.t k ≠ some b) : Cells K cm F (upd H b o) := ⟨fun k c h => by
  obtain ⟨a, h1, ⟨o', ho⟩, h2⟩ := r.at_ k c h
  have ne : a ≠ b := fun z => hb k (by rw [← z]; exact h1)
  refine ⟨a, h1, ⟨o', by rw [upd_ne ne]; exact ho⟩, fun hc => ?_⟩
  obtain ⟨h2, h3⟩ := h2 hc
  exact ⟨h2, h3.keep (Same.refl F) fun o h => by rw [upd_ne ne]; exact h⟩, r.inj, r.dom⟩
/-! ### what a place of the frame holds: settled data, or objects of its own -/
inductive SV where
  | fro (d : Dat)
  | ol (xs : List SV)
  | od (ks : List Key) (xs : List SV)
  | oo (a : Addr) (c : Str) (fs : List Str) (xs : List SV)
  | tp (xs : List SV)

mutual
inductive RO (K : PySem.W.Frag) (cm : CM) (F H : Hp) : V → SV → List Addr → Prop
  | fro {v : V} {d : Dat} : R K cm F v d → RO K cm F H v (.fro d) []
  | ol {a : Addr} {vs : List V} {xs : List SV} {A : List Addr} : F a = none → H a = some (.lst vs) → ROs K cm F H vs xs A → RO K cm F H (.ref a) (.ol xs) (a :: A)
  | od {a : Addr} {kvs : List (Key × V)} {ks : List Key} {xs : List SV} {A : List Addr} : F a = none → H a = some (.dK kvs) → kvs.map (·.1) = ks → ROs K cm F H (kvs.map (·.2)) xs A → RO K cm F H (.ref a) (.od ks xs) (a :: A)
  | oo {a dx : Addr} {c : Str} {fvs : List (Str × V)} {fs : List Str} {xs : List SV} {A : List Addr} : F a = none → H a = some (.ins (cm c) dx fvs) → fvs.map (·.1) = fs → ROs K cm F H (fvs.map (·.2)) xs A → RO K cm F H (.ref a) (.oo a c fs xs) (a :: A)
  | tp {a : Addr} {vs : List V} {xs : List SV} {A : List Addr} : F a = none → H a = some (.tup vs) → ROs K cm F H vs xs A → RO K cm F H (.ref a) (.tp xs) (a :: A)
inductive ROs (K : PySem.W.Frag) (cm : CM) (F H : Hp) : List V → List SV → List Addr → Prop
  | nil : ROs K cm F H [] [] []
  | cons {v : V} {vs : List V} {x : SV} {xs : List SV} {A B : List Addr} : RO K cm F H v x A → ROs K cm F H vs xs B → ROs K cm F H (v :: vs) (x :: xs) (A ++ B)
end

/-- what is needed of F and H for the places: F grows outside, H keeps -/
theorem ext_none (e : Ext F H F' H') {a : Addr} {o : HO} (h : H a = some o) (n : F a = none) : F' a = none := by
  cases q : F' a with
  | none => rfl
  | some u =>
    have z := e.new a u q n
    rw [h] at z
    cases z
mutual
theorem RO.ext (e : Ext F H F' H') : ∀ {v : V} {x : SV} {A : List Addr}, RO K cm F H v x A → RO K cm F' H' v x A
  | _, _, _, .fro r => .fro (r.mono e.f)
  | _, _, _, .ol n h r => .ol (ext_none e h n) (e.h _ _ h) (ROs.ext e r)
  | _, _, _, .od n h k r => .od (ext_none e h n) (e.h _ _ h) k (ROs.ext e r)
  | _, _, _, .oo n h k r => .oo (ext_none e h n) (e.h _ _ h) k (ROs.ext e r)
  | _, _, _, .tp n h r => .tp (ext_none e h n) (e.h _ _ h) (ROs.ext e r)
theorem ROs.ext (e : Ext F H F' H') : ∀ {vs : List V} {xs : List SV} {A : List Addr}, ROs K cm F H vs xs A → ROs K cm F' H' vs xs A
  | _, _, _, .nil => .nil
  | _, _, _, .cons r t => .cons (RO.ext e r) (ROs.ext e t)
end
/-! .. where an object outside is changed -/
mutual
theorem RO.out {b : Addr} {o : HO} : ∀ {v : V} {x : SV} {A : List Addr}, RO K cm F H v x A → b ∉ A → RO K cm F (upd H b o) v x A
  | _, _, _, .fro r, _ => .fro r
  | _, _, _, .ol n h r, hb => .ol n (by rw [upd_ne (fun z => hb (by rw [z]; exact List.mem_cons_self))]; exact h) (ROs.out r fun z => hb (List.mem_cons_of_mem _ z))
  | _, _, _, .od n h k r, hb => .od n (by rw [upd_ne (fun z => hb (by rw [z]; exact List.mem_cons_self))]; exact h) k (ROs.out r fun z => hb (List.mem_cons_of_mem _ z))
  | _, _, _, .oo n h k r, hb => .oo n (by rw [upd_ne (fun z => hb (by rw [z]; exact List.mem_cons_self))]; exact h) k (ROs.out r fun z => hb (List.mem_cons_of_mem _ z))
  | _, _, _, .tp n h r, hb => .tp n (by rw [upd_ne (fun z => hb (by rw [z]; exact List.mem_cons_self))]; exact h) (ROs.out r fun z => hb (List.mem_cons_of_mem _ z))
theorem ROs.out {b : Addr} {o : HO} : ∀ {vs : List V} {xs : List SV} {A : List Addr}, ROs K cm F H vs xs A → b ∉ A → ROs K cm F (upd H b o) vs xs A
  | _, _, _, .nil, _ => .nil
  | _, _, _, .cons r t, hb => .cons (RO.out r fun z => hb (List.mem_append_left _ z)) (ROs.out t fun z => hb (List.mem_append_right _ z))
end
/-! its own addresses stand in H and aren't settled -/
mutual
theorem RO.own : ∀ {v : V} {x : SV} {A : List Addr}, RO K cm F H v x A → ∀ a ∈ A, F a = none ∧ ∃ o, H a = some o
  | _, _, _, .fro _, a, h => by simp at h
  | _, _, _, .ol n h r, b, hb => by
    rcases List.mem_cons.mp hb with rfl | hb
    · exact ⟨n, _, h⟩
    · exact ROs.own r b hb
  | _, _, _, .od n h k r, b, hb => by
    rcases List.mem_cons.mp hb with rfl | hb
    · exact ⟨n, _, h⟩
    · exact ROs.own r b hb
  | _, _, _, .oo n h k r, b, hb => by
    rcases List.mem_cons.mp hb with rfl | hb
    · exact ⟨n, _, h⟩
    · exact ROs.own r b hb
  | _, _, _, .tp n h r, b, hb => by
    rcases List.mem_cons.mp hb with rfl | hb
    · exact ⟨n, _, h⟩
    · exact ROs.own r b hb
theorem ROs.own : ∀ {vs : List V} {xs : List SV} {A : List Addr}, ROs K cm F H vs xs A → ∀ a ∈ A, F a = none ∧ ∃ o, H a = some o
  | _, _, _, .nil, a, h => by simp at h
  | _, _, _, .cons r t, a, h => by
    rcases List.mem_append.mp h with h | h
    · exact RO.own r a h
    · exact ROs.own t a h
end
/-! settling -/
mutual
def frz : SV → Dat
  | .fro d => d
  | .ol xs => .lst (frzs xs)
  | .od ks xs => .dct ks (frzs xs)
  | .oo _ c fs xs => .obj c fs (frzs xs)
  | .tp xs => .tup (frzs xs)
def frzs : List SV → List Dat
  | [] => []
  | x :: xs => frz x :: frzs xs
end
theorem frzs_map : ∀ xs : List SV, frzs xs = xs.map frz
  | [] => by rw [frzs]; rfl
  | x :: xs => by rw [frzs, frzs_map xs]; rfl
/-- F with what stands in H at A -/
def plus (F H : Hp) (A : List Addr) : Hp := fun b => if b ∈ A then H b else F b
theorem plus_in {A : List Addr} {a : Addr} (h : a ∈ A) : plus F H A a = H a := by unfold plus; rw [if_pos h]
theorem plus_out {A : List Addr} {a : Addr} (h : a ∉ A) : plus F H A a = F a := by unfold plus; rw [if_neg h]
theorem plus_same {A : List Addr} (h : ∀ a ∈ A, F a = none) : Same F (plus F H A) := fun a o e => by
  by_cases q : a ∈ A
  · rw [h a q] at e; cases e
  · rw [plus_out q]; exact e
theorem plus_le {A : List Addr} (e : Same F H) : Same (plus F H A) H := fun a o q => by
  by_cases z : a ∈ A
  · rw [plus_in z] at q; exact q
  · rw [plus_out z] at q; exact e a o q
theorem plus_mono {A B : List Addr} (e : Same F H) (h : ∀ a ∈ A, a ∈ B) : Same (plus F H A) (plus F H B) := fun a o q => by
  by_cases z : a ∈ B
  · rw [plus_in z]; exact plus_le e a o q
  · rw [plus_out (fun k => z (h a k))] at q
    rw [plus_out z]; exact q
theorem Cells.plus {A : List Addr} (r : Cells K cm F H) (hF : ∀ a ∈ A, F a = none) (hA : ∀ a ∈ A, ∀ k, cm.t k ≠ some a) : Cells K cm (plus F H A) H := ⟨fun k c h => by
  obtain ⟨a, h1, ho, h2⟩ := r.at_ k c h
  refine ⟨a, h1, ho, fun hc => ?_⟩
  obtain ⟨h2, h3⟩ := h2 hc
  exact ⟨by rw [plus_out fun z => hA a z k h1]; exact h2, h3.keep (plus_same hF) fun o h => h⟩, r.inj, r.dom⟩
mutual
theorem RO.frz (e : Same F H) : ∀ {v : V} {x : SV} {A : List Addr}, RO K cm F H v x A → R K cm (plus F H A) v (Pq.frz x)
  | _, _, _, .fro r => by rw [Pq.frz]; exact r.mono (plus_same fun a h => by simp at h)
  | _, _, _, @RO.ol _ _ _ _ a vs xs A n h r => by
    rw [Pq.frz]
    exact .lst (.inl (by rw [plus_in List.mem_cons_self]; exact h)) ((ROs.frz e r).mono (plus_mono e fun b hb => List.mem_cons_of_mem _ hb))
  | _, _, _, @RO.od _ _ _ _ a kvs ks xs A n h k r => by
    rw [Pq.frz]
    exact .dct (.inl (by rw [plus_in List.mem_cons_self]; exact h)) k ((ROs.frz e r).mono (plus_mono e fun b hb => List.mem_cons_of_mem _ hb))
  | _, _, _, @RO.oo _ _ _ _ a dx c fvs fs xs A n h k r => by
    rw [Pq.frz]
    exact .obj (by rw [plus_in List.mem_cons_self]; exact h) k ((ROs.frz e r).mono (plus_mono e fun b hb => List.mem_cons_of_mem _ hb))
  | _, _, _, @RO.tp _ _ _ _ a vs xs A n h r => by
    rw [Pq.frz]
    exact .tup (.inl (.inl (by rw [plus_in List.mem_cons_self]; exact h))) ((ROs.frz e r).mono (plus_mono e fun b hb => List.mem_cons_of_mem _ hb))
theorem ROs.frz (e : Same F H) : ∀ {vs : List V} {xs : List SV} {A : List Addr}, ROs K cm F H vs xs A → Rs K cm (plus F H A) vs (frzs xs)
  | _, _, _, .nil => by rw [frzs]; exact .nil
  | _, _, _, @ROs.cons _ _ _ _ v vs x xs A B r t => by
    rw [frzs]
    exact .cons ((RO.frz e r).mono (plus_mono e fun b hb => List.mem_append_left _ hb)) ((ROs.frz e t).mono (plus_mono e fun b hb => List.mem_append_right _ hb))
end
end
end Pq

namespace Pq
open PySem PySem.Spec PyProof.Rows L2

/-! ### the places of a frame -/
abbrev Rho := List (Option SV)
structure Rel (K : PySem.W.Frag) (cm : CM) (F H : Hp) (σ : L2.St) (ρ : Rho) (As : Nat → List Addr) : Prop where
  len : σ.length = ρ.length
  fh : Same F H
  at_ : ∀ i sv, ρ[i]? = some (some sv) → ∃ v, σ[i]? = some (some v) ∧ RO K cm F H v sv (As i)
  nd : ∀ i, (As i).Nodup
  sep : ∀ i j, i ≠ j → ∀ a ∈ As i, a ∉ As j
  own : ∀ i, ∀ a ∈ As i, F a = none ∧ ∃ o, H a = some o
  cel : Cells K cm F H
  out : ∀ i, ∀ a ∈ As i, ∀ k, cm.t k ≠ some a
section
variable {K : PySem.W.Frag} {cm : CM} {F F' H H' : Hp} {σ : L2.St} {ρ : Rho} {As : Nat → List Addr}
theorem Rel.ext (r : Rel K cm F H σ ρ As) (e : Ext F H F' H') : Rel K cm F' H' σ ρ As :=
  ⟨r.len, e.fh, fun i sv h => by
    obtain ⟨v, h1, h2⟩ := r.at_ i sv h
    exact ⟨v, h1, h2.ext e⟩, r.nd, r.sep, fun i a h => by
    obtain ⟨n, o, q⟩ := r.own i a h
    exact ⟨ext_none e q n, o, e.h _ _ q⟩, r.cel.ext e, r.out⟩
/-- a place is given a value of its own -/
theorem Rel.set (r : Rel K cm F H σ ρ As) {i : Nat} {v : V} {sv : SV} {A : List Addr} (h : RO K cm F H v sv A) (nd : A.Nodup) (hA : ∀ j, j ≠ i → ∀ a ∈ A, a ∉ As j) (hc : ∀ a ∈ A, ∀ k, cm.t k ≠ some a) :
    Rel K cm F H (σ.set i (some v)) (ρ.set i (some sv)) (fun j => if j = i then A else As j) where
  len := by rw [List.length_set, List.length_set]; exact r.len
  fh := r.fh
  at_ := fun j sv' e => by
    by_cases hj : i = j
    · subst hj
      by_cases hl : i < ρ.length
      · rw [List.getElem?_set_self hl] at e
        cases e
        refine ⟨v, List.getElem?_set_self (by rw [r.len]; exact hl), ?_⟩
        rw [if_pos rfl]
        exact h
      · rw [List.getElem?_eq_none (by rw [List.length_set]; omega)] at e
        cases e
    · rw [List.getElem?_set_ne hj] at e
      obtain ⟨w, h1, h2⟩ := r.at_ j sv' e
      refine ⟨w, by rw [List.getElem?_set_ne hj]; exact h1, ?_⟩
      rw [if_neg (fun z => hj z.symm)]
      exact h2
  nd := fun j => by
    by_cases hj : j = i
    · simp only [if_pos hj]; exact nd
    · simp only [if_neg hj]; exact r.nd j
  sep := fun j k hjk a ha hb => by
    by_cases hj : j = i
    · simp only [if_pos hj] at ha
      by_cases hk : k = i
      · exact hjk (hj.trans hk.symm)
      · simp only [if_neg hk] at hb
        exact hA k hk a ha hb
    · simp only [if_neg hj] at ha
      by_cases hk : k = i
      · simp only [if_pos hk] at hb
        exact hA j hj a hb ha
      · simp only [if_neg hk] at hb
        exact r.sep j k hjk a ha hb
  own := fun j a ha => by
    by_cases hj : j = i
    · simp only [if_pos hj] at ha
      exact h.own a ha
    · simp only [if_neg hj] at ha
      exact r.own j a ha
  cel := r.cel
  out := fun j a ha => by
    by_cases hj : j = i
    · simp only [if_pos hj] at ha
      exact hc a ha
    · simp only [if_neg hj] at ha
      exact r.out j a ha
/-- .. settled data -/
theorem Rel.setD (r : Rel K cm F H σ ρ As) {i : Nat} {v : V} {d : Dat} (h : R K cm F v d) :
    Rel K cm F H (σ.set i (some v)) (ρ.set i (some (.fro d))) (fun j => if j = i then [] else As j) := r.set (.fro h) .nil (fun _ _ a ha => by simp at ha) fun a ha => by simp at ha
/-- .. what is new -/
theorem Rel.setN {F0 H0 : Hp} (r : Rel K cm F0 H0 σ ρ As) (e : Ext F0 H0 F H) {i : Nat} {v : V} {sv : SV} {A : List Addr} (h : RO K cm F H v sv A) (nd : A.Nodup) (hA : ∀ a ∈ A, H0 a = none) :
    Rel K cm F H (σ.set i (some v)) (ρ.set i (some sv)) (fun j => if j = i then A else As j) := (r.ext e).set h nd (fun j _ a ha hb => by
  obtain ⟨_, o, q⟩ := r.own j a hb
  rw [hA a ha] at q
  cases q) fun a ha k hk => by
  obtain ⟨o, q⟩ := r.cel.own_ hk
  rw [hA a ha] at q
  cases q
/-- forgetting places -/
theorem Rel.weak (r : Rel K cm F H σ ρ As) {σ' : L2.St} {ρ' : Rho} (hl : σ'.length = ρ'.length) (h : ∀ (i : Nat) (sv : SV), ρ'[i]? = some (some sv) → ρ[i]? = some (some sv) ∧ σ'[i]? = σ[i]?) : Rel K cm F H σ' ρ' As :=
  ⟨hl, r.fh, fun i sv e => by
    obtain ⟨h1, h2⟩ := h i sv e
    obtain ⟨v, h3, h4⟩ := r.at_ i sv h1
    exact ⟨v, h2.trans h3, h4⟩, r.nd, r.sep, r.own, r.cel, r.out⟩
/-- a place is settled -/
def frzAt (i : Nat) (ρ : Rho) : Rho := match ρ[i]? with
  | some (some sv) => ρ.set i (some (.fro (frz sv)))
  | _ => ρ
theorem plus_ext (r : Rel K cm F H σ ρ As) (i : Nat) : Same F (plus F H (As i)) ∧ Same (plus F H (As i)) H := ⟨plus_same fun a h => (r.own i a h).1, plus_le r.fh⟩
theorem set_id {α : Type} {l : List α} {i : Nat} {x : α} (h : l[i]? = some x) : l.set i x = l := by
  apply List.ext_getElem?
  intro j
  by_cases hj : i = j
  · subst hj
    have hl : i < l.length := (List.getElem?_eq_some_iff.mp h).1
    rw [List.getElem?_set_self hl, h]
  · rw [List.getElem?_set_ne hj]
mutual
theorem RO.plus {B : List Addr} (hB : Same F H) : ∀ {v : V} {x : SV} {A : List Addr}, RO K cm F H v x A → (∀ a ∈ A, a ∉ B) → (∀ a ∈ B, F a = none) → RO K cm (plus F H B) H v x A
  | _, _, _, .fro r, _, hF => .fro (r.mono (plus_same hF))
  | _, _, _, .ol n h r, hb, hF => .ol (by rw [plus_out (hb _ List.mem_cons_self)]; exact n) h (ROs.plus hB r (fun a ha => hb a (List.mem_cons_of_mem _ ha)) hF)
  | _, _, _, .od n h k r, hb, hF => .od (by rw [plus_out (hb _ List.mem_cons_self)]; exact n) h k (ROs.plus hB r (fun a ha => hb a (List.mem_cons_of_mem _ ha)) hF)
  | _, _, _, .oo n h k r, hb, hF => .oo (by rw [plus_out (hb _ List.mem_cons_self)]; exact n) h k (ROs.plus hB r (fun a ha => hb a (List.mem_cons_of_mem _ ha)) hF)
  | _, _, _, .tp n h r, hb, hF => .tp (by rw [plus_out (hb _ List.mem_cons_self)]; exact n) h (ROs.plus hB r (fun a ha => hb a (List.mem_cons_of_mem _ ha)) hF)
theorem ROs.plus {B : List Addr} (hB : Same F H) : ∀ {vs : List V} {xs : List SV} {A : List Addr}, ROs K cm F H vs xs A → (∀ a ∈ A, a ∉ B) → (∀ a ∈ B, F a = none) → ROs K cm (plus F H B) H vs xs A
  | _, _, _, .nil, _, _ => .nil
  | _, _, _, .cons r t, hb, hF => .cons (RO.plus hB r (fun a ha => hb a (List.mem_append_left _ ha)) hF) (ROs.plus hB t (fun a ha => hb a (List.mem_append_right _ ha)) hF)
end
theorem Rel.frz (r : Rel K cm F H σ ρ As) (i : Nat) : Rel K cm (plus F H (As i)) H σ (frzAt i ρ) (fun j => if j = i then [] else As j) := by
  have hF : ∀ a ∈ As i, F a = none := fun a h => (r.own i a h).1
  have other : ∀ j, j ≠ i → ∀ sv, ρ[j]? = some (some sv) → ∃ v, σ[j]? = some (some v) ∧ RO K cm (plus F H (As i)) H v sv (As j) := fun j hj sv e => by
    obtain ⟨v, h1, h2⟩ := r.at_ j sv e
    exact ⟨v, h1, h2.plus r.fh (r.sep j i hj) hF⟩
  refine ⟨?_, plus_le r.fh, fun j sv e => ?_, fun j => ?_, fun j k hjk a ha hb => ?_, fun j a ha => ?_, r.cel.plus hF (r.out i), fun j a ha => ?_⟩
  · unfold frzAt
    split
    · rw [List.length_set]; exact r.len
    · exact r.len
  · unfold frzAt at e
    split at e
    · rename_i sv0 h0
      by_cases hj : i = j
      · subst hj
        have hl : i < ρ.length := (List.getElem?_eq_some_iff.mp h0).1
        rw [List.getElem?_set_self hl] at e
        cases e
        obtain ⟨v, h1, h2⟩ := r.at_ i sv0 h0
        refine ⟨v, h1, ?_⟩
        rw [if_pos rfl]
        exact .fro (h2.frz r.fh)
      · rw [List.getElem?_set_ne hj] at e
        rw [if_neg (fun z => hj z.symm)]
        exact other j (fun z => hj z.symm) sv e
    · rename_i hno
      by_cases hj : j = i
      · subst hj
        exact (hno sv e).elim
      · rw [if_neg hj]
        exact other j hj sv e
  · by_cases hj : j = i
    · simp only [if_pos hj]; exact .nil
    · simp only [if_neg hj]; exact r.nd j
  · by_cases hj : j = i
    · simp only [if_pos hj] at ha; simp at ha
    · by_cases hk : k = i
      · simp only [if_pos hk] at hb; simp at hb
      · simp only [if_neg hj] at ha; simp only [if_neg hk] at hb
        exact r.sep j k hjk a ha hb
  · by_cases hj : j = i
    · simp only [if_pos hj] at ha; simp at ha
    · simp only [if_neg hj] at ha
      obtain ⟨n, o⟩ := r.own j a ha
      exact ⟨by rw [plus_out (r.sep j i hj a ha)]; exact n, o⟩
  · by_cases hj : j = i
    · simp only [if_pos hj] at ha; simp at ha
    · simp only [if_neg hj] at ha
      exact r.out j a ha
end

/-! ### readings by data -/
section
variable (K : PySem.W.Frag) (cm : CM)
/-- an expression: settled data -/
def ofE (f : Rho → Option Dat) : TE := fun σ H Q => ∃ F ρ As d, Rel K cm F H σ ρ As ∧ f ρ = some d ∧ ∀ v F' H', Ext F H F' H' → R K cm F' v d → Q v H'
/-- .. what is new and its own -/
def ofO (f : Rho → Option SV) : TE := fun σ H Q => ∃ F ρ As sv, Rel K cm F H σ ρ As ∧ f ρ = some sv ∧ ∀ v F' H' A, Ext F H F' H' → RO K cm F' H' v sv A → A.Nodup → (∀ a ∈ A, H a = none) → Q v H'
def ofT (f : Rho → Option Bool) : TT := fun σ H Q => ∃ F ρ As b, Rel K cm F H σ ρ As ∧ f ρ = some b ∧ ∀ F' H', Ext F H F' H' → Q b H'
def ofA (f : Rho → Option (List Dat)) : TA := fun σ H Q => ∃ F ρ As ds, Rel K cm F H σ ρ As ∧ f ρ = some ds ∧ ∀ vs F' H', Ext F H F' H' → Rs K cm F' vs ds → Q vs H'
/-- an exception that leaves: its class by name, its fields -/
def ExcP (F H : Hp) (n : Str) (fs : List Str) (xs : List Dat) (E : Value → Option Addr → Hp → Prop) : Prop :=
  (fs = [] → ∀ F' H', Ext F H F' H' → E (.ref (cm n)) none H') ∧
    (fs ≠ [] → ∀ F' H' d vs, Ext F H F' H' → H d = none → F' d = none → H' d = some (.xd (fs.zip vs)) → Rs K cm F' vs xs → E (.ref (cm n)) (some d) H')
inductive Out where
  | ok (sv : SV)
  | exc (n : Str) (fs : List Str) (xs : List Dat)
inductive Res where
  | nx (ρ : Rho) | ret (sv : SV) | brk (ρ : Rho) | cont (ρ : Rho) | exc (n : Str) (fs : List Str) (xs : List Dat) | bad
/-- the state of a body: F0, H0 the entry's -/
def Sta (F0 H0 : Hp) (ρ : Rho) (σ : L2.St) (H : Hp) : Prop := ∃ F As, Rel K cm F H σ ρ As ∧ Ext F0 H0 F H ∧ ∀ i, ∀ a ∈ As i, H0 a = none
def Post (W : L2.WX) (F0 H0 : Hp) (D : Ends) : Res → Prop
  | .nx ρ => ∀ σ' H', Sta K cm F0 H0 ρ σ' H' → D.nx σ' H'
  | .brk ρ => ∀ σ' H', Sta K cm F0 H0 ρ σ' H' → D.bk σ' H'
  | .cont ρ => ∀ σ' H', Sta K cm F0 H0 ρ σ' H' → D.ct σ' H'
  | .ret sv => ∀ v F' H' A, Ext F0 H0 F' H' → RO K cm F' H' v sv A → A.Nodup → (∀ a ∈ A, H0 a = none) → D.rt v H'
  | .exc n fs xs => ∀ σ', ExcP K cm F0 H0 n fs xs fun c d H' => W c d σ' H'
  | .bad => False
def ofS (W : L2.WX) (f : Rho → Res) : TS := fun D σ H => ∃ F0 H0 ρ, Sta K cm F0 H0 ρ σ H ∧ Post K cm W F0 H0 D (f ρ)
/-- a def's promise -/
def spX (g : List Dat → Option Out) : Sp := fun vs H Q E => ∃ F ds o, Same F H ∧ Cells K cm F H ∧ Rs K cm F vs ds ∧ g ds = some o ∧ match o with
  | .ok sv => ∀ v F' H' A, Ext F H F' H' → RO K cm F' H' v sv A → A.Nodup → (∀ a ∈ A, H a = none) → Q v H'
  | .exc n fs xs => ExcP K cm F H n fs xs E
end

section
variable {X : Cx} {cm : CM} {e a b : Expr} {t t' ta tb : TE}
theorem PE.imp (h : PE X e t) (i : ∀ σ H Q, t' σ H Q → t σ H Q) : PE X e t' := ⟨fun pins s σ H Q I q => h.run pins s σ H Q I (i σ H Q q)⟩
theorem PT.imp {t t' : TT} (h : PT X e t) (i : ∀ σ H Q, t' σ H Q → t σ H Q) : PT X e t' := ⟨fun pins s σ H Q I q => h.run pins s σ H Q I (i σ H Q q)⟩
theorem PA.imp {es : List Expr} {t t' : TA} (h : PA X es t) (i : ∀ σ H Q, t' σ H Q → t σ H Q) : PA X es t' := ⟨fun pos pins s σ H Q I q => h.run pos pins s σ H Q I (i σ H Q q)⟩
theorem PS.imp {st : Stmt} {t t' : TS} (h : PS X st t) (i : ∀ D σ H, t' D σ H → t D σ H) : PS X st t' := ⟨fun pins s σ H D I q => h.run pins s σ H D I (i D σ H q)⟩
theorem PSs.imp {st : List Stmt} {t t' : TS} (h : PSs X st t) (i : ∀ D σ H, t' D σ H → t D σ H) : PSs X st t' := ⟨fun pins s σ H D I q => h.run pins s σ H D I (i D σ H q)⟩

/-! ### names and constants -/
def rd (i : Nat) (ρ : Rho) : Option Dat := match ρ[i]? with
  | some (some (.fro d)) => some d
  | _ => none
theorem RO.fro_inv {K : PySem.W.Frag} {F H : Hp} {v : V} {d : Dat} {A : List Addr} (h : RO K cm F H v (.fro d) A) : R K cm F v d := by
  cases h with
  | fro q => exact q
theorem Rel.rd {K : PySem.W.Frag} {F H : Hp} {σ : L2.St} {ρ : Rho} {As : Nat → List Addr} (r : Rel K cm F H σ ρ As) {i : Nat} {d : Dat} (h : rd i ρ = some d) : ∃ v, σ[i]? = some (some v) ∧ R K cm F v d := by
  unfold Pq.rd at h
  split at h
  · rename_i d' e
    cases h
    obtain ⟨v, h1, h2⟩ := r.at_ i _ e
    exact ⟨v, h1, h2.fro_inv⟩
  · cases h
/-- the name in the i-th place -/
theorem ev (i : Nat) {x : Str} {pos : Pos} (hN : X.N[i]? = some x := by rfl) (hv : Vis X.env.scope x := by first | exact Or.inl rfl | exact Or.inr (Or.inl rfl) | exact Or.inr (Or.inr rfl)) (hd : (x == ("__debug__" : Str)) = false := by decide)
    (hcd : (x == ("__classdict__" : Str)) = false := by decide) : PE X (.Name x pos) (ofE X.K cm (rd i)) := by
  refine PE.imp (pe_var hN hv hd hcd) fun σ H Q ⟨F, ρ, As, d, rel, hf, k⟩ => ?_
  obtain ⟨v, h1, h2⟩ := rel.rd hf
  exact ⟨v, h1, k v F H (Ext.refl rel.fh) h2⟩
def kD (d : Dat) : Rho → Option Dat := fun _ => some d
theorem e_c {v : V} {d : Dat} (h : PE X e (tC v)) (r : ∀ F, R X.K cm F v d) : PE X e (ofE X.K cm (kD d)) := PE.imp h fun σ H Q ⟨F, ρ, As, d', rel, hf, k⟩ => by
  cases hf
  exact k v F H (Ext.refl rel.fh) (r F)
theorem e_int {i : Int} {j pos} : PE X (.Constant (.int i) j pos) (ofE X.K cm (kD (.int i))) := e_c pe_int fun _ => .int i
theorem e_bl {k : Bool} {j pos} : PE X (.Constant (.bool k) j pos) (ofE X.K cm (kD (.bl k))) := e_c pe_bl fun _ => .bl k
theorem e_non {j pos} : PE X (.Constant .none j pos) (ofE X.K cm (kD .non)) := e_c pe_non fun _ => .non
theorem e_str {x : Str} {j pos} : PE X (.Constant (.str x) j pos) (ofE X.K cm (kD (.str x))) := e_c pe_str fun _ => .str x

/-! ### operators -/
def bin (g : Dat → Dat → Option Dat) (fa fb : Rho → Option Dat) : Rho → Option Dat := fun ρ => (fa ρ).bind fun x => (fb ρ).bind fun y => g x y
def un (g : Dat → Option Dat) (fa : Rho → Option Dat) : Rho → Option Dat := fun ρ => (fa ρ).bind g
def OpD (X : Cx) (cm : CM) (r : R2) (g : Dat → Dat → Option Dat) : Prop := ∀ F H x y a b d (Q : VK), Same F H → R X.K cm F x a → R X.K cm F y b → g a b = some d → (∀ v F' H', Ext F H F' H' → R X.K cm F' v d → Q v H') → r x y H Q
def UnD (X : Cx) (cm : CM) (r : V → Hp → VK → Prop) (g : Dat → Option Dat) : Prop := ∀ F H x a d (Q : VK), Same F H → R X.K cm F x a → g a = some d → (∀ v F' H', Ext F H F' H' → R X.K cm F' v d → Q v H') → r x H Q
theorem bind_some {α β : Type} {x : Option α} {f : α → Option β} {y : β} (h : x.bind f = some y) : ∃ z, x = some z ∧ f z = some y := by
  cases x with
  | none => cases h
  | some z => exact ⟨z, rfl, h⟩
theorem bin_of {r : R2} {g : Dat → Dat → Option Dat} {fa fb : Rho → Option Dat} (hd : OpD X cm r g) : ∀ σ H Q, ofE X.K cm (bin g fa fb) σ H Q → tOp r (ofE X.K cm fa) (ofE X.K cm fb) σ H Q := fun σ H Q ⟨F, ρ, As, d, rel, hf, k⟩ => by
  obtain ⟨x, e1, hf⟩ := bind_some hf
  obtain ⟨y, e2, hf⟩ := bind_some hf
  exact ⟨F, ρ, As, x, rel, e1, fun v F1 H1 x1 r1 => ⟨F1, ρ, As, y, rel.ext x1, e2, fun u F2 H2 x2 r2 => hd F2 H2 v u x y d Q x2.fh (r1.mono x2.f) r2 hf fun z F3 H3 x3 r3 => k z F3 H3 (x1.trans (x2.trans x3)) r3⟩⟩
theorem e_bin {op : Operator} {r : R2} {g : Dat → Dat → Option Dat} {fa fb : Rho → Option Dat} {pos : Pos} (ho : OpR X (binaryOp op) r) (hd : OpD X cm r g) (ha : PE X a (ofE X.K cm fa)) (hb : PE X b (ofE X.K cm fb)) : PE X (.BinOp a op b pos) (ofE X.K cm (bin g fa fb)) :=
  PE.imp (pe_op ho ha hb) (bin_of hd)
theorem e_cmp {op : CmpOp} {r : R2} {g : Dat → Dat → Option Dat} {fa fb : Rho → Option Dat} {pos : Pos} (ho : OpR X (compareOp op) r) (hd : OpD X cm r g) (ha : PE X a (ofE X.K cm fa)) (hb : PE X b (ofE X.K cm fb)) (hm : behindInMarks op b = false) : PE X (.Compare a [op] [b] pos) (ofE X.K cm (bin g fa fb)) :=
  PE.imp (pe_cmpR ho ha hb hm) (bin_of hd)
/-- an expression whose value is a truth value -/
def tst (f : Rho → Option Dat) : Rho → Option Bool := fun ρ => (f ρ).bind fun | .bl k => some k | _ => none
theorem tst_some {f : Rho → Option Dat} {ρ : Rho} {k : Bool} (h : tst f ρ = some k) : f ρ = some (.bl k) := by
  obtain ⟨d, e, h⟩ := bind_some h
  cases d with
  | bl j =>
    have : j = k := Option.some.inj h
    rw [e, this]
  | _ => cases h
theorem R.bl_inv {K : PySem.W.Frag} {F : Hp} {v : V} {k : Bool} (h : R K cm F v (.bl k)) : v = .bl k := by cases h; rfl
theorem R.int_inv {K : PySem.W.Frag} {F : Hp} {v : V} {k : Int} (h : R K cm F v (.int k)) : v = .int k := by cases h; rfl
theorem R.str_inv {K : PySem.W.Frag} {F : Hp} {v : V} {k : Str} (h : R K cm F v (.str k)) : v = .str k := by cases h; rfl
theorem R.non_inv {K : PySem.W.Frag} {F : Hp} {v : V} (h : R K cm F v .non) : v = .non := by cases h; rfl
theorem tst_of {f : Rho → Option Dat} : ∀ σ H (Q : Bool → Hp → Prop), ofT X.K cm (tst f) σ H Q → ofE X.K cm f σ H fun x H' => ∃ k, x = .bl k ∧ Q k H' := fun σ H Q ⟨F, ρ, As, k, rel, hf, q⟩ =>
  ⟨F, ρ, As, .bl k, rel, tst_some hf, fun v F' H' x r => ⟨k, r.bl_inv, q F' H' x⟩⟩
theorem t_val {f : Rho → Option Dat} (h : PE X e (ofE X.K cm f)) (he : ∀ whole, isTrue e X.env whole = (do let v ← whole; standAt e.pos; holding [v] (truthy v)) := by intro _; rfl) : PT X e (ofT X.K cm (tst f)) :=
  PT.imp (pt_val h he) fun σ H Q q => tst_of σ H Q q
theorem t_cmp {op : CmpOp} {r : R2} {g : Dat → Dat → Option Dat} {fa fb : Rho → Option Dat} {pos : Pos} (ho : OpR X (compareOp op) r) (hd : OpD X cm r g) (ha : PE X a (ofE X.K cm fa)) (hb : PE X b (ofE X.K cm fb)) (hm : behindInMarks op b = false) : PT X (.Compare a [op] [b] pos) (ofT X.K cm (tst (bin g fa fb))) :=
  PT.imp (pt_cmpR ho ha hb hm) fun σ H Q q => by
    obtain ⟨F, ρ, As, d, rel, hf, k⟩ := tst_of σ H Q q
    exact bin_of hd σ H _ ⟨F, ρ, As, d, rel, hf, k⟩
/-! ### and, or, not -/
def and2 (f g : Rho → Option Bool) : Rho → Option Bool := fun ρ => (f ρ).bind fun k => if k = true then g ρ else some false
def or2 (f g : Rho → Option Bool) : Rho → Option Bool := fun ρ => (f ρ).bind fun k => if k = true then some true else g ρ
def not1 (f : Rho → Option Bool) : Rho → Option Bool := fun ρ => (f ρ).map fun k => !k
variable {f g : Rho → Option Bool} {rest : List Expr} {pos : Pos}
theorem PW.imp {t t' : TT} (h : PW X e t) (i : ∀ σ H Q, t' σ H Q → t σ H Q) : PW X e t' := ⟨fun wh pins s σ H Q I q => h.run wh pins s σ H Q I (i σ H Q q)⟩
theorem w_and1 (h : PT X a (ofT X.K cm f)) : PW X (.BoolOp .And [a] pos) (ofT X.K cm f) := pw_and1 h
theorem w_or1 (h : PT X a (ofT X.K cm f)) : PW X (.BoolOp .Or [a] pos) (ofT X.K cm f) := pw_or1 h
theorem w_and (ha : PT X a (ofT X.K cm f)) (hb : PW X (.BoolOp .And (b :: rest) pos) (ofT X.K cm g)) : PW X (.BoolOp .And (a :: b :: rest) pos) (ofT X.K cm (and2 f g)) := PW.imp (pw_and ha hb) fun σ H Q ⟨F, ρ, As, k, rel, hf, q⟩ => by
  obtain ⟨j, e1, hf⟩ := bind_some hf
  refine ⟨F, ρ, As, j, rel, e1, fun F1 H1 x1 => ?_⟩
  cases j with
  | true =>
    rw [if_pos rfl] at hf ⊢
    exact ⟨F1, ρ, As, k, rel.ext x1, hf, fun F2 H2 x2 => q F2 H2 (x1.trans x2)⟩
  | false =>
    rw [if_neg Bool.false_ne_true] at hf ⊢
    cases hf
    exact q F1 H1 x1
theorem w_or (ha : PT X a (ofT X.K cm f)) (hb : PW X (.BoolOp .Or (b :: rest) pos) (ofT X.K cm g)) : PW X (.BoolOp .Or (a :: b :: rest) pos) (ofT X.K cm (or2 f g)) := PW.imp (pw_or ha hb) fun σ H Q ⟨F, ρ, As, k, rel, hf, q⟩ => by
  obtain ⟨j, e1, hf⟩ := bind_some hf
  refine ⟨F, ρ, As, j, rel, e1, fun F1 H1 x1 => ?_⟩
  cases j with
  | false =>
    rw [if_neg Bool.false_ne_true] at hf ⊢
    exact ⟨F1, ρ, As, k, rel.ext x1, hf, fun F2 H2 x2 => q F2 H2 (x1.trans x2)⟩
  | true =>
    rw [if_pos rfl] at hf ⊢
    cases hf
    exact q F1 H1 x1
theorem t_not (ha : PT X a (ofT X.K cm f)) : PT X (.UnaryOp .Not a pos) (ofT X.K cm (not1 f)) := PT.imp (pt_not ha) fun σ H Q ⟨F, ρ, As, k, rel, hf, q⟩ => by
  unfold not1 at hf
  cases e1 : f ρ with
  | none => rw [e1] at hf; cases hf
  | some j =>
    rw [e1] at hf
    cases hf
    exact ⟨F, ρ, As, j, rel, e1, q⟩
/-- .. as values -/
def asV (f : Rho → Option Bool) : Rho → Option Dat := fun ρ => (f ρ).map Dat.bl
def andV (fa fb : Rho → Option Dat) : Rho → Option Dat := fun ρ => (fa ρ).bind fun
  | .bl true => fb ρ
  | .bl false => some (.bl false)
  | _ => none
def orV (fa fb : Rho → Option Dat) : Rho → Option Dat := fun ρ => (fa ρ).bind fun
  | .bl true => some (.bl true)
  | .bl false => fb ρ
  | _ => none
def notV (fa : Rho → Option Dat) : Rho → Option Dat := fun ρ => (fa ρ).bind fun
  | .bl k => some (.bl (!k))
  | _ => none
variable {fa fb : Rho → Option Dat}
theorem v_one {op} (h : PE X a (ofE X.K cm fa)) : PE X (.BoolOp op [a] pos) (ofE X.K cm fa) := pe_one h
theorem v_and (ha : PE X a (ofE X.K cm fa)) (hb : PE X (.BoolOp .And (b :: rest) pos) (ofE X.K cm fb)) : PE X (.BoolOp .And (a :: b :: rest) pos) (ofE X.K cm (andV fa fb)) := PE.imp (pe_and ha hb) fun σ H Q ⟨F, ρ, As, d, rel, hf, q⟩ => by
  obtain ⟨x, e1, hf⟩ := bind_some hf
  refine ⟨F, ρ, As, x, rel, e1, fun v F1 H1 x1 r1 => ?_⟩
  cases x with
  | bl k =>
    refine ⟨k, r1.bl_inv, ?_⟩
    cases k with
    | true =>
      rw [if_pos rfl]
      exact ⟨F1, ρ, As, d, rel.ext x1, hf, fun u F2 H2 x2 r2 => q u F2 H2 (x1.trans x2) r2⟩
    | false =>
      rw [if_neg Bool.false_ne_true]
      cases hf
      exact q _ F1 H1 x1 (.bl false)
  | _ => cases hf
theorem v_or (ha : PE X a (ofE X.K cm fa)) (hb : PE X (.BoolOp .Or (b :: rest) pos) (ofE X.K cm fb)) : PE X (.BoolOp .Or (a :: b :: rest) pos) (ofE X.K cm (orV fa fb)) := PE.imp (pe_or ha hb) fun σ H Q ⟨F, ρ, As, d, rel, hf, q⟩ => by
  obtain ⟨x, e1, hf⟩ := bind_some hf
  refine ⟨F, ρ, As, x, rel, e1, fun v F1 H1 x1 r1 => ?_⟩
  cases x with
  | bl k =>
    refine ⟨k, r1.bl_inv, ?_⟩
    cases k with
    | false =>
      rw [if_neg Bool.false_ne_true]
      exact ⟨F1, ρ, As, d, rel.ext x1, hf, fun u F2 H2 x2 r2 => q u F2 H2 (x1.trans x2) r2⟩
    | true =>
      rw [if_pos rfl]
      cases hf
      exact q _ F1 H1 x1 (.bl true)
  | _ => cases hf
theorem v_not (ha : PE X a (ofE X.K cm fa)) : PE X (.UnaryOp .Not a pos) (ofE X.K cm (notV fa)) := PE.imp (pe_not ha) fun σ H Q ⟨F, ρ, As, d, rel, hf, q⟩ => by
  obtain ⟨x, e1, hf⟩ := bind_some hf
  refine ⟨F, ρ, As, x, rel, e1, fun v F1 H1 x1 r1 => ?_⟩
  cases x with
  | bl k =>
    cases hf
    exact ⟨k, r1.bl_inv, q _ F1 H1 x1 (.bl _)⟩
  | _ => cases hf
end
end Pq

namespace Pq
open PySem PySem.Spec PyProof.Rows L2

/-! ### equal data -/
mutual
def dp : Dat → Nat
  | .tup xs => dps xs + 1
  | .lst xs => dps xs + 1
  | .dct _ xs => dps xs + 1
  | .obj _ _ xs => dps xs + 1
  | .scr xs => dps xs + 1
  | .non => 0 | .bl _ => 0 | .int _ => 0 | .str _ => 0 | .cel _ => 0
def dps : List Dat → Nat
  | [] => 0
  | x :: xs => max (dp x) (dps xs)
end
def look : List Key → List Dat → Key → Option Dat
  | k :: ks, x :: xs, j => if k = j then some x else look ks xs j
  | _, _, _ => none
mutual
def eqb : Dat → Dat → Bool
  | .non, .non => true
  | .bl a, .bl b => a == b
  | .bl a, .int j => (if a then 1 else 0) == j
  | .int i, .bl b => i == (if b then 1 else 0)
  | .int i, .int j => i == j
  | .str x, .str y => x == y
  | .lst xs, .lst ys => eqbs xs ys
  | .tup xs, .tup ys => eqbs xs ys
  | _, _ => false
def eqbs : List Dat → List Dat → Bool
  | [], [] => true
  | x :: xs, y :: ys => eqb x y && eqbs xs ys
  | _, _ => false
end
/-! what can be compared here -/
mutual
def cpt : Dat → Dat → Bool
  | .lst xs, .lst ys => cpts xs ys
  | .tup xs, .tup ys => cpts xs ys
  | .lst _, .tup _ => true
  | .tup _, .lst _ => true
  | .dct _ _, _ => false
  | .obj _ _ _, _ => false
  | .scr _, _ => false
  | .cel _, _ => false
  | _, .dct _ _ => false
  | _, .obj _ _ _ => false
  | _, .scr _ => false
  | _, .cel _ => false
  | _, _ => true
def cpts : List Dat → List Dat → Bool
  | x :: xs, y :: ys => cpt x y && cpts xs ys
  | _, _ => true
end
theorem dps_le {x : Dat} : ∀ {xs : List Dat}, x ∈ xs → dp x ≤ dps xs
  | _ :: _, .head _ => by rw [dps]; exact Nat.le_max_left _ _
  | _ :: _, .tail _ h => by rw [dps]; exact Nat.le_trans (dps_le h) (Nat.le_max_right _ _)
theorem cpts_get : ∀ {xs ys : List Dat} {i : Nat} {x y : Dat}, cpts xs ys = true → xs[i]? = some x → ys[i]? = some y → cpt x y = true
  | x :: xs, y :: ys, 0, _, _, h, e1, e2 => by
    simp at e1 e2
    subst e1 e2
    rw [cpts] at h
    exact (Bool.and_eq_true_iff.mp h).1
  | x :: xs, y :: ys, i + 1, _, _, h, e1, e2 => by
    rw [cpts] at h
    exact cpts_get (i := i) (Bool.and_eq_true_iff.mp h).2 (by simpa using e1) (by simpa using e2)
  | [], _, _, _, _, _, e1, _ => by simp at e1
  | _ :: _, [], _, _, _, _, _, e2 => by simp at e2
def pairE (xs ys : List Dat) (i : Nat) : Bool := match xs[i]?, ys[i]? with
  | some x, some y => eqb x y
  | _, _ => true
theorem pairE_succ (x y : Dat) (xs ys : List Dat) (i : Nat) : pairE (x :: xs) (y :: ys) (i + 1) = pairE xs ys i := by simp [pairE]
theorem eqbs_all : ∀ xs ys : List Dat, ((List.range (min xs.length ys.length)).all (pairE xs ys) && xs.length == ys.length) = eqbs xs ys
  | [], [] => by simp [eqbs]
  | [], _ :: _ => by simp [eqbs]
  | _ :: _, [] => by simp [eqbs]
  | x :: xs, y :: ys => by
    rw [eqbs, ← eqbs_all xs ys, List.length_cons, List.length_cons, Nat.succ_min_succ, List.range_succ_eq_map, List.all_cons, List.all_map]
    have h0 : pairE (x :: xs) (y :: ys) 0 = eqb x y := by simp [pairE]
    have h1 : (pairE (x :: xs) (y :: ys)) ∘ Nat.succ = pairE xs ys := by
      funext i
      exact pairE_succ x y xs ys i
    have h2 : (xs.length + 1 == ys.length + 1) = (xs.length == ys.length) := by
      rw [Bool.eq_iff_iff]
      simp
    rw [h0, h1, h2, Bool.and_assoc]
theorem eqbs_same {xs ys : List Dat} (h : xs.length = ys.length) : (List.range xs.length).all (pairE xs ys) = eqbs xs ys := by
  rw [← eqbs_all xs ys, ← h, Nat.min_self, beq_self_eq_true, Bool.and_true]
theorem eqbs_other {xs ys : List Dat} (h : xs.length ≠ ys.length) : eqbs xs ys = false := by
  rw [← eqbs_all xs ys, beq_eq_false_iff_ne.mpr h, Bool.and_false]

section
variable {X : Cx} {cm : CM} {pins : List (Addr × Obj)} {σ : L2.St} {F H : Hp} {s : Shared}
theorem rd_up {a : Addr} {u : HO} (e : Same F H) (h : Rd F a u) : Rd H a u := same_rd e h
theorem R.at_list (I : Inv X pins σ H s) (e : Same F H) {a : Addr} {vs : List V} (h : Rd F a (.lst vs)) : ∃ its : List Value, Vals vs its ∧ s.heap.IsList a its.toArray := by
  obtain ⟨its, r, p, _⟩ := I.list (.inl (rd_up e h))
  exact ⟨its, r, p.isList⟩
theorem R.at_tup (I : Inv X pins σ H s) (e : Same F H) {a : Addr} {vs : List V} (h : SqT X.K F a vs) : ∃ its : List Value, Vals vs its ∧ s.heap.IsTuple a its.toArray := by
  obtain ⟨its, r, p, _⟩ := I.tuple (same_sqT e h)
  exact ⟨its, r, p⟩

theorem R.clash (I : Inv X pins σ H s) (e : Same F H) {a : Addr} {vs ws : List V} (h : Rd F a (.lst vs)) (h' : SqT X.K F a ws) : False := by
  obtain ⟨its, r, p⟩ := R.at_list I e h
  obtain ⟨its', r', p'⟩ := R.at_tup I e h'
  exact SeqAt.ne_of_list_tuple p p' rfl
mutual
theorem eqb_same (I : Inv X pins σ H s) (e : Same F H) : ∀ {v : V} {d d' : Dat}, R X.K cm F v d → R X.K cm F v d' → cpt d d' = true → eqb d d' = true
  | _, _, _, .non, .non, _ => by simp [eqb]
  | _, _, _, .bl b, .bl _, _ => by simp [eqb]
  | _, _, _, .int i, .int _, _ => by simp [eqb]
  | _, _, _, .str x, .str _, _ => by simp [eqb]
  | _, _, _, .lst h r, .lst h' r', c => by
    rw [cpt] at c
    rw [eqb]
    have z := I.list_inj (.inl (rd_up e h)) (.inl (rd_up e h'))
    subst z
    exact eqbs_sameL I e r r' c
  | _, _, _, .tup h r, .tup h' r', c => by
    rw [cpt] at c
    rw [eqb]
    have z := I.tuple_inj (same_sqT e h) (same_sqT e h')
    subst z
    exact eqbs_sameL I e r r' c
  | _, _, _, .lst h r, .tup h' r', c => (R.clash I e h h').elim
  | _, _, _, .tup h r, .lst h' r', c => (R.clash I e h' h).elim
  | _, _, _, .lst h r, .dct h' k r', c => by simp [cpt] at c
  | _, _, _, .lst h r, .obj h' k r', c => by simp [cpt] at c
  | _, _, _, .lst h r, .scr h' r', c => by simp [cpt] at c
  | _, _, _, .lst h r, .cel h', c => by simp [cpt] at c
  | _, _, _, .tup h r, .dct h' k r', c => by simp [cpt] at c
  | _, _, _, .tup h r, .obj h' k r', c => by simp [cpt] at c
  | _, _, _, .tup h r, .scr h' r', c => by simp [cpt] at c
  | _, _, _, .tup h r, .cel h', c => by simp [cpt] at c
  | _, _, _, .dct h k r, _, c => by simp [cpt] at c
  | _, _, _, .obj h k r, _, c => by simp [cpt] at c
  | _, _, _, .scr h r, _, c => by simp [cpt] at c
  | _, _, _, .cel h, _, c => by simp [cpt] at c
theorem eqbs_sameL (I : Inv X pins σ H s) (e : Same F H) : ∀ {vs : List V} {xs ys : List Dat}, Rs X.K cm F vs xs → Rs X.K cm F vs ys → cpts xs ys = true → eqbs xs ys = true
  | _, _, _, .nil, .nil, _ => by simp [eqbs]
  | _, _, _, .cons r t, .cons r' t', c => by
    rw [cpts, Bool.and_eq_true] at c
    rw [eqbs, eqb_same I e r r' c.1, eqbs_sameL I e t t' c.2]
    rfl
end

/-- the comparison of two values answers b wherever n levels more are free -/
def EA (s : Shared) (n : Nat) (u u' : Value) (b : Bool) : Prop := ∀ A : Around, A.units + n < cLine → PySem.SeqAt.EqAt A s u u' b
theorem EA.same {s : Shared} {n : Nat} {u : Value} : EA s n u u true := fun _ _ => .same u
theorem EA.lists {s : Shared} {n : Nat} {a b : Addr} {vs ws : Array Value} {e : Nat → Bool} (ne : a ≠ b) (h1 : s.heap.IsList a vs) (h2 : s.heap.IsList b ws) (hs : vs.size = ws.size) (h : ∀ j (l1 : j < vs.size) (l2 : j < ws.size), EA s n vs[j] ws[j] (e j)) : EA s (n + 1) (.ref a) (.ref b) ((List.range vs.size).all e) :=
  fun A hu => .of_refs ne (.lists h1 h2 hs (by omega) fun j l1 l2 => h j l1 l2 A.in1 (by show A.units + 1 + n < cLine; omega))
theorem EA.listsLen {s : Shared} {n : Nat} {a b : Addr} {vs ws : Array Value} (ne : a ≠ b) (h1 : s.heap.IsList a vs) (h2 : s.heap.IsList b ws) (hs : (vs.size != ws.size) = true) : EA s n (.ref a) (.ref b) false :=
  fun A hu => .of_refs ne (.lists_lengths h1 h2 hs (by omega))
theorem EA.tuples {s : Shared} {n : Nat} {a b : Addr} {vs ws : Array Value} {e : Nat → Bool} (ne : a ≠ b) (h1 : s.heap.IsTuple a vs) (h2 : s.heap.IsTuple b ws) (h : ∀ j (l1 : j < vs.size) (l2 : j < ws.size), EA s n vs[j] ws[j] (e j)) : EA s (n + 1) (.ref a) (.ref b) ((List.range (min vs.size ws.size)).all e && vs.size == ws.size) :=
  fun A hu => .of_refs ne (.tuples h1 h2 (by omega) fun j l1 l2 => h j l1 l2 A.in1 (by show A.units + 1 + n < cLine; omega))
def isSc : Dat → Bool
  | .non => true | .bl _ => true | .int _ => true | .str _ => true
  | _ => false
/-- equality of what is no row -/
theorem eqb_sc (I : Inv X pins σ H s) (e : Same F H) (n : Nat) {d d' : Dat} {v v' : V} {u u' : Value} (hn : isSc d = true) (c : cpt d d' = true) (h : R X.K cm F v d) (h' : R X.K cm F v' d') (r : RelV v u) (r' : RelV v' u') : EA s (n + 1) u u' (eqb d d') := by
  cases h with
  | non =>
    cases r
    cases h' with
    | non => cases r'; rw [eqb]; exact .same
    | bl b => cases r'; rw [show eqb .non (.bl b) = false by simp [eqb]]; exact fun A _ => .none_bool b
    | int i => obtain ⟨t, rfl⟩ := r'; rw [show eqb .non (.int i) = false by simp [eqb]]; exact fun A _ => .none_int i t
    | str i => obtain ⟨t, rfl⟩ := r'; rw [show eqb .non (.str i) = false by simp [eqb]]; exact fun A _ => .none_str i t
    | lst q k => cases r'; obtain ⟨_, _, p⟩ := R.at_list I e q; rw [eqb] <;> (try simp); exact fun A hu => .none_list p (by omega)
    | tup q k => cases r'; obtain ⟨_, _, p⟩ := R.at_tup I e q; rw [eqb] <;> (try simp); exact fun A hu => .none_tuple p (by omega)
    | dct q k z => simp [cpt] at c
    | obj q k z => simp [cpt] at c
    | scr q k => simp [cpt] at c
    | cel q => simp [cpt] at c
  | bl b =>
    cases r
    cases h' with
    | non => cases r'; rw [show eqb (.bl b) .non = false by simp [eqb]]; exact fun A _ => .bool_none b
    | bl b' => cases r'; rw [eqb]; exact fun A _ => .bool_bool b b'
    | int i => obtain ⟨t, rfl⟩ := r'; rw [eqb]; exact fun A _ => .bool_int b i t
    | str i => obtain ⟨t, rfl⟩ := r'; rw [show eqb (.bl b) (.str i) = false by simp [eqb]]; exact fun A _ => .bool_str b i t
    | lst q k => cases r'; obtain ⟨_, _, p⟩ := R.at_list I e q; rw [eqb] <;> (try simp); exact fun A hu => .bool_list b p (by omega)
    | tup q k => cases r'; obtain ⟨_, _, p⟩ := R.at_tup I e q; rw [eqb] <;> (try simp); exact fun A hu => .bool_tuple b p (by omega)
    | dct q k z => simp [cpt] at c
    | obj q k z => simp [cpt] at c
    | scr q k => simp [cpt] at c
    | cel q => simp [cpt] at c
  | int b =>
    obtain ⟨t0, rfl⟩ := r
    cases h' with
    | non => cases r'; rw [show eqb (.int b) .non = false by simp [eqb]]; exact fun A _ => .int_none b t0
    | bl b' => cases r'; rw [eqb]; exact fun A _ => .int_bool b t0 b'
    | int i => obtain ⟨t, rfl⟩ := r'; rw [eqb]; exact fun A _ => .int_int b t0 i t
    | str i => obtain ⟨t, rfl⟩ := r'; rw [show eqb (.int b) (.str i) = false by simp [eqb]]; exact fun A _ => .int_str b t0 i t
    | lst q k => cases r'; obtain ⟨_, _, p⟩ := R.at_list I e q; rw [eqb] <;> (try simp); exact fun A hu => .int_list b t0 p (by omega)
    | tup q k => cases r'; obtain ⟨_, _, p⟩ := R.at_tup I e q; rw [eqb] <;> (try simp); exact fun A hu => .int_tuple b t0 p (by omega)
    | dct q k z => simp [cpt] at c
    | obj q k z => simp [cpt] at c
    | scr q k => simp [cpt] at c
    | cel q => simp [cpt] at c
  | str b =>
    obtain ⟨t0, rfl⟩ := r
    cases h' with
    | non => cases r'; rw [show eqb (.str b) .non = false by simp [eqb]]; exact fun A _ => .str_none b t0
    | bl b' => cases r'; rw [show eqb (.str b) (.bl b') = false by simp [eqb]]; exact fun A _ => .str_bool b t0 b'
    | int i => obtain ⟨t, rfl⟩ := r'; rw [show eqb (.str b) (.int i) = false by simp [eqb]]; exact fun A _ => .str_int b t0 i t
    | str i => obtain ⟨t, rfl⟩ := r'; rw [eqb]; exact fun A _ => .str_str b t0 i t
    | lst q k => cases r'; obtain ⟨_, _, p⟩ := R.at_list I e q; rw [eqb] <;> (try simp); exact fun A hu => .str_list b t0 p (by omega)
    | tup q k => cases r'; obtain ⟨_, _, p⟩ := R.at_tup I e q; rw [eqb] <;> (try simp); exact fun A hu => .str_tuple b t0 p (by omega)
    | dct q k z => simp [cpt] at c
    | obj q k z => simp [cpt] at c
    | scr q k => simp [cpt] at c
    | cel q => simp [cpt] at c
  | tup q k => cases hn
  | lst q k => cases hn
  | dct q k z => simp [cpt] at c
  | obj q k z => simp [cpt] at c
  | scr q k => simp [cpt] at c
  | cel q => simp [cpt] at c

theorem Rs.vals_at {vs : List V} {xs : List Dat} {its : List Value} (h : Rs X.K cm F vs xs) (r : Vals vs its) {j : Nat} (hj : j < its.length) : ∃ v x, xs[j]? = some x ∧ R X.K cm F v x ∧ RelV v its[j] := by
  have hv : j < vs.length := by rw [r.length]; exact hj
  obtain ⟨x, h1, h2⟩ := h.getV (List.getElem?_eq_getElem hv)
  obtain ⟨u, h3, h4⟩ := r.get (List.getElem?_eq_getElem hv)
  rw [List.getElem?_eq_getElem hj] at h3
  cases h3
  exact ⟨_, x, h1, h2, h4⟩
theorem cpt_mono {n : Nat} {xs : List Dat} {i : Nat} {x : Dat} (h : dps xs ≤ n) (e : xs[i]? = some x) : dp x ≤ n := Nat.le_trans (dps_le (List.mem_of_getElem? e)) h
theorem eqb_tree (I : Inv X pins σ H s) (e : Same F H) : ∀ (n : Nat) {d d' : Dat} {v v' : V} {u u' : Value}, dp d ≤ n → cpt d d' = true → R X.K cm F v d → R X.K cm F v' d' → RelV v u → RelV v' u' → EA s (n + 1) u u' (eqb d d') := by
  intro n
  induction n with
  | zero =>
    intro d d' v v' u u' hn c h h' r r'
    refine eqb_sc I e 0 ?_ c h h' r r'
    cases d with
    | tup q => rw [dp] at hn; omega
    | lst q => rw [dp] at hn; omega
    | dct q k => simp [cpt] at c
    | obj q k z => simp [cpt] at c
    | scr q => simp [cpt] at c
    | cel q => simp [cpt] at c
    | _ => rfl
  | succ n ih =>
    intro d d' v v' u u' hn c h h' r r'
    by_cases hs : isSc d = true
    · exact eqb_sc I e (n + 1) hs c h h' r r'
    have step : ∀ {vs ws : List V} {xs ys : List Dat} {its its' : List Value}, dps xs ≤ n → cpts xs ys = true → Rs X.K cm F vs xs → Rs X.K cm F ws ys → Vals vs its → Vals ws its' → ∀ j (h1 : j < its.toArray.size) (h2 : j < its'.toArray.size), EA s (n + 1) its.toArray[j] its'.toArray[j] (pairE xs ys j) := fun {vs ws xs ys its its'} hd hc r1 r2 q1 q2 j h1 h2 => by
      obtain ⟨v1, x1, e1, p1, t1⟩ := r1.vals_at q1 (j := j) (by simpa using h1)
      obtain ⟨v2, x2, e2, p2, t2⟩ := r2.vals_at q2 (j := j) (by simpa using h2)
      have z := ih (cpt_mono hd e1) (cpts_get hc e1 e2) p1 p2 t1 t2
      unfold pairE
      rw [e1, e2]
      simpa using z
    cases h with
    | non => exact (hs rfl).elim
    | bl b => exact (hs rfl).elim
    | int b => exact (hs rfl).elim
    | str b => exact (hs rfl).elim
    | dct q k z => simp [cpt] at c
    | obj q k z => simp [cpt] at c
    | scr q k => simp [cpt] at c
    | cel q => simp [cpt] at c
    | @lst a vs xs q k =>
      cases r
      rw [dp] at hn
      obtain ⟨its, q1, p1⟩ := R.at_list I e q
      cases h' with
      | non => cases r'; rw [show eqb (.lst xs) .non = false by simp [eqb]]; exact fun A hu => .list_none p1 (by omega)
      | bl b => cases r'; rw [show eqb (.lst xs) (.bl b) = false by simp [eqb]]; exact fun A hu => .list_bool b p1 (by omega)
      | int b => obtain ⟨t, rfl⟩ := r'; rw [show eqb (.lst xs) (.int b) = false by simp [eqb]]; exact fun A hu => .list_int b t p1 (by omega)
      | str b => obtain ⟨t, rfl⟩ := r'; rw [show eqb (.lst xs) (.str b) = false by simp [eqb]]; exact fun A hu => .list_str b t p1 (by omega)
      | dct q' k' z => simp [cpt] at c
      | obj q' k' z => simp [cpt] at c
      | scr q k => simp [cpt] at c
      | cel q => simp [cpt] at c
      | @tup b ws ys q' k' =>
        cases r'
        obtain ⟨its', q2, p2⟩ := R.at_tup I e q'
        rw [show eqb (.lst xs) (.tup ys) = false by simp [eqb]]
        exact fun A hu => .list_tuple p1 p2 (by omega)
      | @lst b ws ys q' k' =>
        cases r'
        obtain ⟨its', q2, p2⟩ := R.at_list I e q'
        by_cases hab : a = b
        · subst hab
          rw [eqb_same I e (.lst q k) (.lst q' k') c]
          exact .same
        · rw [cpt] at c
          rw [eqb]
          by_cases hl : xs.length = ys.length
          · have hsz : its.toArray.size = its'.toArray.size := by
              rw [List.size_toArray, List.size_toArray, ← q1.length, ← q2.length, k.length, k'.length]; exact hl
            rw [← eqbs_same hl]
            have z := EA.lists hab p1 p2 hsz (step (by omega) c k k' q1 q2)
            rw [List.size_toArray, ← q1.length, k.length] at z
            exact z
          · rw [eqbs_other hl]
            refine .listsLen hab p1 p2 ?_
            rw [List.size_toArray, List.size_toArray, ← q1.length, ← q2.length, k.length, k'.length]
            simpa using hl
    | @tup a vs xs q k =>
      cases r
      rw [dp] at hn
      obtain ⟨its, q1, p1⟩ := R.at_tup I e q
      cases h' with
      | non => cases r'; rw [show eqb (.tup xs) .non = false by simp [eqb]]; exact fun A hu => .tuple_none p1 (by omega)
      | bl b => cases r'; rw [show eqb (.tup xs) (.bl b) = false by simp [eqb]]; exact fun A hu => .tuple_bool b p1 (by omega)
      | int b => obtain ⟨t, rfl⟩ := r'; rw [show eqb (.tup xs) (.int b) = false by simp [eqb]]; exact fun A hu => .tuple_int b t p1 (by omega)
      | str b => obtain ⟨t, rfl⟩ := r'; rw [show eqb (.tup xs) (.str b) = false by simp [eqb]]; exact fun A hu => .tuple_str b t p1 (by omega)
      | dct q' k' z => simp [cpt] at c
      | obj q' k' z => simp [cpt] at c
      | scr q k => simp [cpt] at c
      | cel q => simp [cpt] at c
      | @lst b ws ys q' k' =>
        cases r'
        obtain ⟨its', q2, p2⟩ := R.at_list I e q'
        rw [show eqb (.tup xs) (.lst ys) = false by simp [eqb]]
        exact fun A hu => .tuple_list p1 p2 (by omega)
      | @tup b ws ys q' k' =>
        cases r'
        obtain ⟨its', q2, p2⟩ := R.at_tup I e q'
        by_cases hab : a = b
        · subst hab
          rw [eqb_same I e (.tup q k) (.tup q' k') c]
          exact .same
        · rw [cpt] at c
          rw [eqb, ← eqbs_all xs ys]
          have z := EA.tuples hab p1 p2 (step (by omega) c k k' q1 q2)
          rw [List.size_toArray, List.size_toArray, ← q1.length, ← q2.length, k.length, k'.length] at z
          exact z
end
end Pq

namespace Pq
open PySem PySem.Spec PyProof.Rows L2
open PySem.SeqAt (RcAt RcNeAt EqAt)
section
variable {X : Cx} {cm : CM} {pins : List (Addr × Obj)} {σ : L2.St} {F H : Hp} {s : Shared} {A : Around} {E Q : Value → Shared → Prop}
theorem items_in (I : Inv X pins σ H s) (e : Same F H) {n : Nat} (hu : A.units + (n + 1) < cLine) {vs ws : List V} {xs ys : List Dat} {its its' : List Value} (hd : dps xs ≤ n) (hc : cpts xs ys = true) (r1 : Rs X.K cm F vs xs) (r2 : Rs X.K cm F ws ys) (q1 : Vals vs its) (q2 : Vals ws its') :
    ∀ j (h1 : j < its.toArray.size) (h2 : j < its'.toArray.size), EqAt A s its.toArray[j] its'.toArray[j] (pairE xs ys j) := fun j h1 h2 => by
  obtain ⟨v1, x1, e1, p1, t1⟩ := r1.vals_at q1 (j := j) (by simpa using h1)
  obtain ⟨v2, x2, e2, p2, t2⟩ := r2.vals_at q2 (j := j) (by simpa using h2)
  have z := (eqb_tree I e n (cpt_mono hd e1) (cpts_get hc e1 e2) p1 p2 t1 t2) A hu
  unfold pairE
  rw [e1, e2]
  simpa using z
theorem sizes {vs ws : List V} {xs ys : List Dat} {its its' : List Value} (r1 : Rs X.K cm F vs xs) (r2 : Rs X.K cm F ws ys) (q1 : Vals vs its) (q2 : Vals ws its') : its.toArray.size = xs.length ∧ its'.toArray.size = ys.length := by
  rw [List.size_toArray, List.size_toArray, ← q1.length, ← q2.length]
  exact ⟨r1.length, r2.length⟩
theorem eq_lists (I : Inv X pins σ H s) (e : Same F H) (hu : A.units + 60 < cLine) {a b : Addr} {vs ws : List V} {xs ys : List Dat} {its its' : List Value} (hd : dps xs ≤ 50) (hc : cpts xs ys = true) (r1 : Rs X.K cm F vs xs) (r2 : Rs X.K cm F ws ys) (q1 : Vals vs its) (q2 : Vals ws its')
    (p1 : s.heap.IsList a its.toArray) (p2 : s.heap.IsList b its'.toArray) (q : Q (.bool (eqbs xs ys)) s) : wpAny (model X.prog X.w) A (richCompare .Eq (.ref a) (.ref b)) Q E s := by
  obtain ⟨z1, z2⟩ := sizes r1 r2 q1 q2
  by_cases hl : xs.length = ys.length
  · have k := RcAt.lists p1 p2 (by rw [z1, z2]; exact hl) (by omega) (items_in I e (A := A.in1) (n := 50) (by show A.units + 1 + _ < cLine; omega) hd hc r1 r2 q1 q2)
    rw [z1, eqbs_same hl] at k
    exact k _ _ _ _ q
  · rw [eqbs_other hl] at q
    exact RcAt.lists_lengths p1 p2 (by rw [z1, z2]; simpa using hl) (by omega) _ _ _ _ q
theorem eq_tuples (I : Inv X pins σ H s) (e : Same F H) (hu : A.units + 60 < cLine) {a b : Addr} {vs ws : List V} {xs ys : List Dat} {its its' : List Value} (hd : dps xs ≤ 50) (hc : cpts xs ys = true) (r1 : Rs X.K cm F vs xs) (r2 : Rs X.K cm F ws ys) (q1 : Vals vs its) (q2 : Vals ws its')
    (p1 : s.heap.IsTuple a its.toArray) (p2 : s.heap.IsTuple b its'.toArray) (q : Q (.bool (eqbs xs ys)) s) : wpAny (model X.prog X.w) A (richCompare .Eq (.ref a) (.ref b)) Q E s := by
  obtain ⟨z1, z2⟩ := sizes r1 r2 q1 q2
  have k := RcAt.tuples p1 p2 (by omega) (items_in I e (A := A.in1) (n := 50) (by show A.units + 1 + _ < cLine; omega) hd hc r1 r2 q1 q2)
  rw [z1, z2, eqbs_all] at k
  exact k _ _ _ _ q
theorem ne_lists (I : Inv X pins σ H s) (e : Same F H) (hu : A.units + 60 < cLine) {a b : Addr} {vs ws : List V} {xs ys : List Dat} {its its' : List Value} (hd : dps xs ≤ 50) (hc : cpts xs ys = true) (r1 : Rs X.K cm F vs xs) (r2 : Rs X.K cm F ws ys) (q1 : Vals vs its) (q2 : Vals ws its')
    (p1 : s.heap.IsList a its.toArray) (p2 : s.heap.IsList b its'.toArray) (q : Q (.bool (!eqbs xs ys)) s) : wpAny (model X.prog X.w) A (richCompare .NotEq (.ref a) (.ref b)) Q E s := by
  obtain ⟨z1, z2⟩ := sizes r1 r2 q1 q2
  by_cases hl : xs.length = ys.length
  · have k := RcNeAt.lists p1 p2 (by rw [z1, z2]; exact hl) (by omega) (items_in I e (A := A.in1) (n := 50) (by show A.units + 1 + _ < cLine; omega) hd hc r1 r2 q1 q2)
    rw [z1, eqbs_same hl] at k
    exact k _ _ _ _ q
  · rw [eqbs_other hl] at q
    exact RcNeAt.lists_lengths p1 p2 (by rw [z1, z2]; simpa using hl) (by omega) _ _ _ _ q
theorem ne_tuples (I : Inv X pins σ H s) (e : Same F H) (hu : A.units + 60 < cLine) {a b : Addr} {vs ws : List V} {xs ys : List Dat} {its its' : List Value} (hd : dps xs ≤ 50) (hc : cpts xs ys = true) (r1 : Rs X.K cm F vs xs) (r2 : Rs X.K cm F ws ys) (q1 : Vals vs its) (q2 : Vals ws its')
    (p1 : s.heap.IsTuple a its.toArray) (p2 : s.heap.IsTuple b its'.toArray) (q : Q (.bool (!eqbs xs ys)) s) : wpAny (model X.prog X.w) A (richCompare .NotEq (.ref a) (.ref b)) Q E s := by
  obtain ⟨z1, z2⟩ := sizes r1 r2 q1 q2
  have k := RcNeAt.tuples p1 p2 (by omega) (items_in I e (A := A.in1) (n := 50) (by show A.units + 1 + _ < cLine; omega) hd hc r1 r2 q1 q2)
  rw [z1, z2, eqbs_all] at k
  exact k _ _ _ _ q
theorem rc_eq (I : Inv X pins σ H s) (e : Same F H) (hu0 : A.units + 60 < cLine) {d d' : Dat} {v v' : V} {u u' : Value} (n : dp d ≤ 50) (c : cpt d d' = true) (h : R X.K cm F v d) (h' : R X.K cm F v' d') (r : RelV v u) (r' : RelV v' u') (q : Q (.bool (eqb d d')) s) : wpAny (model X.prog X.w) A (richCompare .Eq u u') Q E s := by
  have hu : A.units < cLine := by omega
  cases h with
  | non =>
    cases r
    cases h' with
    | non => cases r'; rw [eqb] at q; exact RcAt.none_none  _ _ _ _ q
    | bl y0 => cases r'; rw [show eqb .non (.bl y0) = false by simp [eqb]] at q; exact RcAt.none_bool y0 _ _ _ _ q
    | int y0 => obtain ⟨t1, rfl⟩ := r'; rw [show eqb .non (.int y0) = false by simp [eqb]] at q; exact RcAt.none_int y0 t1 _ _ _ _ q
    | str y0 => obtain ⟨t1, rfl⟩ := r'; rw [show eqb .non (.str y0) = false by simp [eqb]] at q; exact RcAt.none_str y0 t1 _ _ _ _ q
    | lst k1 k2 => cases r'; obtain ⟨_, _, p⟩ := R.at_list I e k1; rw [show eqb .non (.lst _) = false by simp [eqb]] at q; exact RcAt.none_list  p hu _ _ _ _ q
    | tup k1 k2 => cases r'; obtain ⟨_, _, p⟩ := R.at_tup I e k1; rw [show eqb .non (.tup _) = false by simp [eqb]] at q; exact RcAt.none_tuple  p hu _ _ _ _ q
    | dct k1 k2 k3 => simp [cpt] at c
    | obj k1 k2 k3 => simp [cpt] at c
    | scr k1 k2 => simp [cpt] at c
    | cel k1 => simp [cpt] at c
  | bl x0 =>
    cases r
    cases h' with
    | non => cases r'; rw [show eqb (.bl x0) .non = false by simp [eqb]] at q; exact RcAt.bool_none x0 _ _ _ _ q
    | bl y0 => cases r'; rw [eqb] at q; exact RcAt.bool_bool x0 y0 _ _ _ _ q
    | int y0 => obtain ⟨t1, rfl⟩ := r'; rw [eqb] at q; exact RcAt.bool_int x0 y0 t1 _ _ _ _ q
    | str y0 => obtain ⟨t1, rfl⟩ := r'; rw [show eqb (.bl x0) (.str y0) = false by simp [eqb]] at q; exact RcAt.bool_str x0 y0 t1 _ _ _ _ q
    | lst k1 k2 => cases r'; obtain ⟨_, _, p⟩ := R.at_list I e k1; rw [show eqb (.bl x0) (.lst _) = false by simp [eqb]] at q; exact RcAt.bool_list x0 p hu _ _ _ _ q
    | tup k1 k2 => cases r'; obtain ⟨_, _, p⟩ := R.at_tup I e k1; rw [show eqb (.bl x0) (.tup _) = false by simp [eqb]] at q; exact RcAt.bool_tuple x0 p hu _ _ _ _ q
    | dct k1 k2 k3 => simp [cpt] at c
    | obj k1 k2 k3 => simp [cpt] at c
    | scr k1 k2 => simp [cpt] at c
    | cel k1 => simp [cpt] at c
  | int x0 =>
    obtain ⟨t0, rfl⟩ := r
    cases h' with
    | non => cases r'; rw [show eqb (.int x0) .non = false by simp [eqb]] at q; exact RcAt.int_none x0 t0 _ _ _ _ q
    | bl y0 => cases r'; rw [eqb] at q; exact RcAt.int_bool x0 t0 y0 _ _ _ _ q
    | int y0 => obtain ⟨t1, rfl⟩ := r'; rw [eqb] at q; exact RcAt.int_int x0 t0 y0 t1 _ _ _ _ q
    | str y0 => obtain ⟨t1, rfl⟩ := r'; rw [show eqb (.int x0) (.str y0) = false by simp [eqb]] at q; exact RcAt.int_str x0 t0 y0 t1 _ _ _ _ q
    | lst k1 k2 => cases r'; obtain ⟨_, _, p⟩ := R.at_list I e k1; rw [show eqb (.int x0) (.lst _) = false by simp [eqb]] at q; exact RcAt.int_list x0 t0 p hu _ _ _ _ q
    | tup k1 k2 => cases r'; obtain ⟨_, _, p⟩ := R.at_tup I e k1; rw [show eqb (.int x0) (.tup _) = false by simp [eqb]] at q; exact RcAt.int_tuple x0 t0 p hu _ _ _ _ q
    | dct k1 k2 k3 => simp [cpt] at c
    | obj k1 k2 k3 => simp [cpt] at c
    | scr k1 k2 => simp [cpt] at c
    | cel k1 => simp [cpt] at c
  | str x0 =>
    obtain ⟨t0, rfl⟩ := r
    cases h' with
    | non => cases r'; rw [show eqb (.str x0) .non = false by simp [eqb]] at q; exact RcAt.str_none x0 t0 _ _ _ _ q
    | bl y0 => cases r'; rw [show eqb (.str x0) (.bl y0) = false by simp [eqb]] at q; exact RcAt.str_bool x0 t0 y0 _ _ _ _ q
    | int y0 => obtain ⟨t1, rfl⟩ := r'; rw [show eqb (.str x0) (.int y0) = false by simp [eqb]] at q; exact RcAt.str_int x0 t0 y0 t1 _ _ _ _ q
    | str y0 => obtain ⟨t1, rfl⟩ := r'; rw [eqb] at q; exact RcAt.str_str x0 t0 y0 t1 _ _ _ _ q
    | lst k1 k2 => cases r'; obtain ⟨_, _, p⟩ := R.at_list I e k1; rw [show eqb (.str x0) (.lst _) = false by simp [eqb]] at q; exact RcAt.str_list x0 t0 p hu _ _ _ _ q
    | tup k1 k2 => cases r'; obtain ⟨_, _, p⟩ := R.at_tup I e k1; rw [show eqb (.str x0) (.tup _) = false by simp [eqb]] at q; exact RcAt.str_tuple x0 t0 p hu _ _ _ _ q
    | dct k1 k2 k3 => simp [cpt] at c
    | obj k1 k2 k3 => simp [cpt] at c
    | scr k1 k2 => simp [cpt] at c
    | cel k1 => simp [cpt] at c
  | @lst a vs xs k1 k2 =>
    cases r
    obtain ⟨its, q1, p1⟩ := R.at_list I e k1
    cases h' with
    | non => cases r'; rw [show eqb (.lst xs) .non = false by simp [eqb]] at q; exact RcAt.list_none  p1 hu _ _ _ _ q
    | bl y0 => cases r'; rw [show eqb (.lst xs) (.bl y0) = false by simp [eqb]] at q; exact RcAt.list_bool y0 p1 hu _ _ _ _ q
    | int y0 => obtain ⟨t1, rfl⟩ := r'; rw [show eqb (.lst xs) (.int y0) = false by simp [eqb]] at q; exact RcAt.list_int y0 t1 p1 hu _ _ _ _ q
    | str y0 => obtain ⟨t1, rfl⟩ := r'; rw [show eqb (.lst xs) (.str y0) = false by simp [eqb]] at q; exact RcAt.list_str y0 t1 p1 hu _ _ _ _ q
    | dct k1 k2 k3 => simp [cpt] at c
    | obj k1 k2 k3 => simp [cpt] at c
    | scr k1 k2 => simp [cpt] at c
    | cel k1 => simp [cpt] at c
    | @tup b ws ys k3 k4 =>
      cases r'
      obtain ⟨its', q2, p2⟩ := R.at_tup I e k3
      rw [show eqb (.lst xs) (.tup ys) = false by simp [eqb]] at q
      exact RcAt.list_tuple p1 p2 hu _ _ _ _ q
    | @lst b ws ys k3 k4 =>
      cases r'
      obtain ⟨its', q2, p2⟩ := R.at_list I e k3
      rw [cpt] at c
      rw [dp] at n
      rw [eqb] at q
      exact eq_lists I e hu0 (by omega) c k2 k4 q1 q2 p1 p2 q
  | @tup a vs xs k1 k2 =>
    cases r
    obtain ⟨its, q1, p1⟩ := R.at_tup I e k1
    cases h' with
    | non => cases r'; rw [show eqb (.tup xs) .non = false by simp [eqb]] at q; exact RcAt.tuple_none  p1 hu _ _ _ _ q
    | bl y0 => cases r'; rw [show eqb (.tup xs) (.bl y0) = false by simp [eqb]] at q; exact RcAt.tuple_bool y0 p1 hu _ _ _ _ q
    | int y0 => obtain ⟨t1, rfl⟩ := r'; rw [show eqb (.tup xs) (.int y0) = false by simp [eqb]] at q; exact RcAt.tuple_int y0 t1 p1 hu _ _ _ _ q
    | str y0 => obtain ⟨t1, rfl⟩ := r'; rw [show eqb (.tup xs) (.str y0) = false by simp [eqb]] at q; exact RcAt.tuple_str y0 t1 p1 hu _ _ _ _ q
    | dct k1 k2 k3 => simp [cpt] at c
    | obj k1 k2 k3 => simp [cpt] at c
    | scr k1 k2 => simp [cpt] at c
    | cel k1 => simp [cpt] at c
    | @lst b ws ys k3 k4 =>
      cases r'
      obtain ⟨its', q2, p2⟩ := R.at_list I e k3
      rw [show eqb (.tup xs) (.lst ys) = false by simp [eqb]] at q
      exact RcAt.tuple_list p1 p2 hu _ _ _ _ q
    | @tup b ws ys k3 k4 =>
      cases r'
      obtain ⟨its', q2, p2⟩ := R.at_tup I e k3
      rw [cpt] at c
      rw [dp] at n
      rw [eqb] at q
      exact eq_tuples I e hu0 (by omega) c k2 k4 q1 q2 p1 p2 q
  | dct k1 k2 k3 => simp [cpt] at c
  | obj k1 k2 k3 => simp [cpt] at c
  | scr k1 k2 => simp [cpt] at c
  | cel k1 => simp [cpt] at c
theorem rc_ne (I : Inv X pins σ H s) (e : Same F H) (hu0 : A.units + 60 < cLine) {d d' : Dat} {v v' : V} {u u' : Value} (n : dp d ≤ 50) (c : cpt d d' = true) (h : R X.K cm F v d) (h' : R X.K cm F v' d') (r : RelV v u) (r' : RelV v' u') (q : Q (.bool (!eqb d d')) s) : wpAny (model X.prog X.w) A (richCompare .NotEq u u') Q E s := by
  have hu : A.units < cLine := by omega
  cases h with
  | non =>
    cases r
    cases h' with
    | non => cases r'; rw [eqb] at q; exact RcNeAt.none_none  _ _ _ _ q
    | bl y0 => cases r'; rw [show eqb .non (.bl y0) = false by simp [eqb]] at q; exact RcNeAt.none_bool y0 _ _ _ _ q
    | int y0 => obtain ⟨t1, rfl⟩ := r'; rw [show eqb .non (.int y0) = false by simp [eqb]] at q; exact RcNeAt.none_int y0 t1 _ _ _ _ q
    | str y0 => obtain ⟨t1, rfl⟩ := r'; rw [show eqb .non (.str y0) = false by simp [eqb]] at q; exact RcNeAt.none_str y0 t1 _ _ _ _ q
    | lst k1 k2 => cases r'; obtain ⟨_, _, p⟩ := R.at_list I e k1; rw [show eqb .non (.lst _) = false by simp [eqb]] at q; exact RcNeAt.none_list  p hu _ _ _ _ q
    | tup k1 k2 => cases r'; obtain ⟨_, _, p⟩ := R.at_tup I e k1; rw [show eqb .non (.tup _) = false by simp [eqb]] at q; exact RcNeAt.none_tuple  p hu _ _ _ _ q
    | dct k1 k2 k3 => simp [cpt] at c
    | obj k1 k2 k3 => simp [cpt] at c
    | scr k1 k2 => simp [cpt] at c
    | cel k1 => simp [cpt] at c
  | bl x0 =>
    cases r
    cases h' with
    | non => cases r'; rw [show eqb (.bl x0) .non = false by simp [eqb]] at q; exact RcNeAt.bool_none x0 _ _ _ _ q
    | bl y0 => cases r'; rw [eqb] at q; exact RcNeAt.bool_bool x0 y0 _ _ _ _ q
    | int y0 => obtain ⟨t1, rfl⟩ := r'; rw [eqb] at q; exact RcNeAt.bool_int x0 y0 t1 _ _ _ _ q
    | str y0 => obtain ⟨t1, rfl⟩ := r'; rw [show eqb (.bl x0) (.str y0) = false by simp [eqb]] at q; exact RcNeAt.bool_str x0 y0 t1 _ _ _ _ q
    | lst k1 k2 => cases r'; obtain ⟨_, _, p⟩ := R.at_list I e k1; rw [show eqb (.bl x0) (.lst _) = false by simp [eqb]] at q; exact RcNeAt.bool_list x0 p hu _ _ _ _ q
    | tup k1 k2 => cases r'; obtain ⟨_, _, p⟩ := R.at_tup I e k1; rw [show eqb (.bl x0) (.tup _) = false by simp [eqb]] at q; exact RcNeAt.bool_tuple x0 p hu _ _ _ _ q
    | dct k1 k2 k3 => simp [cpt] at c
    | obj k1 k2 k3 => simp [cpt] at c
    | scr k1 k2 => simp [cpt] at c
    | cel k1 => simp [cpt] at c
  | int x0 =>
    obtain ⟨t0, rfl⟩ := r
    cases h' with
    | non => cases r'; rw [show eqb (.int x0) .non = false by simp [eqb]] at q; exact RcNeAt.int_none x0 t0 _ _ _ _ q
    | bl y0 => cases r'; rw [eqb] at q; exact RcNeAt.int_bool x0 t0 y0 _ _ _ _ q
    | int y0 => obtain ⟨t1, rfl⟩ := r'; rw [eqb] at q; exact RcNeAt.int_int x0 t0 y0 t1 _ _ _ _ q
    | str y0 => obtain ⟨t1, rfl⟩ := r'; rw [show eqb (.int x0) (.str y0) = false by simp [eqb]] at q; exact RcNeAt.int_str x0 t0 y0 t1 _ _ _ _ q
    | lst k1 k2 => cases r'; obtain ⟨_, _, p⟩ := R.at_list I e k1; rw [show eqb (.int x0) (.lst _) = false by simp [eqb]] at q; exact RcNeAt.int_list x0 t0 p hu _ _ _ _ q
    | tup k1 k2 => cases r'; obtain ⟨_, _, p⟩ := R.at_tup I e k1; rw [show eqb (.int x0) (.tup _) = false by simp [eqb]] at q; exact RcNeAt.int_tuple x0 t0 p hu _ _ _ _ q
    | dct k1 k2 k3 => simp [cpt] at c
    | obj k1 k2 k3 => simp [cpt] at c
    | scr k1 k2 => simp [cpt] at c
    | cel k1 => simp [cpt] at c
  | str x0 =>
    obtain ⟨t0, rfl⟩ := r
    cases h' with
    | non => cases r'; rw [show eqb (.str x0) .non = false by simp [eqb]] at q; exact RcNeAt.str_none x0 t0 _ _ _ _ q
    | bl y0 => cases r'; rw [show eqb (.str x0) (.bl y0) = false by simp [eqb]] at q; exact RcNeAt.str_bool x0 t0 y0 _ _ _ _ q
    | int y0 => obtain ⟨t1, rfl⟩ := r'; rw [show eqb (.str x0) (.int y0) = false by simp [eqb]] at q; exact RcNeAt.str_int x0 t0 y0 t1 _ _ _ _ q
    | str y0 => obtain ⟨t1, rfl⟩ := r'; rw [eqb] at q; exact RcNeAt.str_str x0 t0 y0 t1 _ _ _ _ q
    | lst k1 k2 => cases r'; obtain ⟨_, _, p⟩ := R.at_list I e k1; rw [show eqb (.str x0) (.lst _) = false by simp [eqb]] at q; exact RcNeAt.str_list x0 t0 p hu _ _ _ _ q
    | tup k1 k2 => cases r'; obtain ⟨_, _, p⟩ := R.at_tup I e k1; rw [show eqb (.str x0) (.tup _) = false by simp [eqb]] at q; exact RcNeAt.str_tuple x0 t0 p hu _ _ _ _ q
    | dct k1 k2 k3 => simp [cpt] at c
    | obj k1 k2 k3 => simp [cpt] at c
    | scr k1 k2 => simp [cpt] at c
    | cel k1 => simp [cpt] at c
  | @lst a vs xs k1 k2 =>
    cases r
    obtain ⟨its, q1, p1⟩ := R.at_list I e k1
    cases h' with
    | non => cases r'; rw [show eqb (.lst xs) .non = false by simp [eqb]] at q; exact RcNeAt.list_none  p1 hu _ _ _ _ q
    | bl y0 => cases r'; rw [show eqb (.lst xs) (.bl y0) = false by simp [eqb]] at q; exact RcNeAt.list_bool y0 p1 hu _ _ _ _ q
    | int y0 => obtain ⟨t1, rfl⟩ := r'; rw [show eqb (.lst xs) (.int y0) = false by simp [eqb]] at q; exact RcNeAt.list_int y0 t1 p1 hu _ _ _ _ q
    | str y0 => obtain ⟨t1, rfl⟩ := r'; rw [show eqb (.lst xs) (.str y0) = false by simp [eqb]] at q; exact RcNeAt.list_str y0 t1 p1 hu _ _ _ _ q
    | dct k1 k2 k3 => simp [cpt] at c
    | obj k1 k2 k3 => simp [cpt] at c
    | scr k1 k2 => simp [cpt] at c
    | cel k1 => simp [cpt] at c
    | @tup b ws ys k3 k4 =>
      cases r'
      obtain ⟨its', q2, p2⟩ := R.at_tup I e k3
      rw [show eqb (.lst xs) (.tup ys) = false by simp [eqb]] at q
      exact RcNeAt.list_tuple p1 p2 hu _ _ _ _ q
    | @lst b ws ys k3 k4 =>
      cases r'
      obtain ⟨its', q2, p2⟩ := R.at_list I e k3
      rw [cpt] at c
      rw [dp] at n
      rw [eqb] at q
      exact ne_lists I e hu0 (by omega) c k2 k4 q1 q2 p1 p2 q
  | @tup a vs xs k1 k2 =>
    cases r
    obtain ⟨its, q1, p1⟩ := R.at_tup I e k1
    cases h' with
    | non => cases r'; rw [show eqb (.tup xs) .non = false by simp [eqb]] at q; exact RcNeAt.tuple_none  p1 hu _ _ _ _ q
    | bl y0 => cases r'; rw [show eqb (.tup xs) (.bl y0) = false by simp [eqb]] at q; exact RcNeAt.tuple_bool y0 p1 hu _ _ _ _ q
    | int y0 => obtain ⟨t1, rfl⟩ := r'; rw [show eqb (.tup xs) (.int y0) = false by simp [eqb]] at q; exact RcNeAt.tuple_int y0 t1 p1 hu _ _ _ _ q
    | str y0 => obtain ⟨t1, rfl⟩ := r'; rw [show eqb (.tup xs) (.str y0) = false by simp [eqb]] at q; exact RcNeAt.tuple_str y0 t1 p1 hu _ _ _ _ q
    | dct k1 k2 k3 => simp [cpt] at c
    | obj k1 k2 k3 => simp [cpt] at c
    | scr k1 k2 => simp [cpt] at c
    | cel k1 => simp [cpt] at c
    | @lst b ws ys k3 k4 =>
      cases r'
      obtain ⟨its', q2, p2⟩ := R.at_list I e k3
      rw [show eqb (.tup xs) (.lst ys) = false by simp [eqb]] at q
      exact RcNeAt.tuple_list p1 p2 hu _ _ _ _ q
    | @tup b ws ys k3 k4 =>
      cases r'
      obtain ⟨its', q2, p2⟩ := R.at_tup I e k3
      rw [cpt] at c
      rw [dp] at n
      rw [eqb] at q
      exact ne_tuples I e hu0 (by omega) c k2 k4 q1 q2 p1 p2 q
  | dct k1 k2 k3 => simp [cpt] at c
  | obj k1 k2 k3 => simp [cpt] at c
  | scr k1 k2 => simp [cpt] at c
  | cel k1 => simp [cpt] at c
end
/-! ### the operators -/
def rDat (K : PySem.W.Frag) (cm : CM) (p : Dat → Dat → Prop) (g : Dat → Dat → Bool) : R2 := fun x y H Q => ∃ F d d', Same F H ∧ R K cm F x d ∧ R K cm F y d' ∧ p d d' ∧ Q (.bl (g d d')) H
def okEq (d d' : Dat) : Prop := dp d ≤ 50 ∧ cpt d d' = true
section
variable {X : Cx} {cm : CM}
theorem op_deq (hu : X.A.units + 64 < cLine) : OpR X (compareOp .Eq) (rDat X.K cm okEq eqb) := by
  intro pins s σ H x y v u Q I rx ry ⟨F, d, d', e, r, r', ⟨n, c⟩, q⟩
  exact rc_eq I e (by omega) n c r r' rx ry ⟨.bl _, H, I, rfl, q⟩
theorem op_dne (hu : X.A.units + 64 < cLine) : OpR X (compareOp .NotEq) (rDat X.K cm okEq fun d d' => !eqb d d') := by
  intro pins s σ H x y v u Q I rx ry ⟨F, d, d', e, r, r', ⟨n, c⟩, q⟩
  exact rc_ne I e (by omega) n c r r' rx ry ⟨.bl _, H, I, rfl, q⟩
def eqD (d d' : Dat) : Option Dat := if decide (dp d ≤ 50) && cpt d d' then some (.bl (eqb d d')) else none
def neD (d d' : Dat) : Option Dat := if decide (dp d ≤ 50) && cpt d d' then some (.bl (!eqb d d')) else none
theorem od_of {p : Dat → Dat → Prop} {g : Dat → Dat → Bool} {f : Dat → Dat → Option Dat} (h : ∀ d d' z, f d d' = some z → p d d' ∧ z = .bl (g d d')) : OpD X cm (rDat X.K cm p g) f := fun F H x y a b d Q e r1 r2 hg k => by
  obtain ⟨hp, rfl⟩ := h a b d hg
  exact ⟨F, a, b, e, r1, r2, hp, k _ F H (Ext.refl e) (.bl _)⟩
theorem od_eq : OpD X cm (rDat X.K cm okEq eqb) eqD := od_of fun d d' z h => by
  unfold eqD at h
  split at h
  · rename_i c
    rw [Bool.and_eq_true, decide_eq_true_eq] at c
    exact ⟨c, (Option.some.inj h).symm⟩
  · cases h
theorem od_ne : OpD X cm (rDat X.K cm okEq fun d d' => !eqb d d') neD := od_of fun d d' z h => by
  unfold neD at h
  split at h
  · rename_i c
    rw [Bool.and_eq_true, decide_eq_true_eq] at c
    exact ⟨c, (Option.some.inj h).symm⟩
  · cases h
end
end Pq

namespace Pq
open PySem PySem.Spec PyProof.Rows L2
noncomputable section

/-! ### what is new: settled, or of one's own -/
section
variable {K : PySem.W.Frag} {cm : CM} {F H : Hp} {vs : List V} {ds : List Dat} {Q : VK}
theorem new_lst (e : Same F H) (r : Rs K cm F vs ds) (k : ∀ v F' H', Ext F H F' H' → R K cm F' v (.lst ds) → Q v H') : ∀ p, H p = none → Q (.ref p) (upd H p (.lst vs)) := fun p hp =>
  k _ _ _ (Ext.laid e hp) (.lst (.inl upd_same) (r.mono (same_new (e.free hp))))
theorem new_tup (e : Same F H) (r : Rs K cm F vs ds) (k : ∀ v F' H', Ext F H F' H' → R K cm F' v (.tup ds) → Q v H') : ∀ p, H p = none → Q (.ref p) (upd H p (.tup vs)) := fun p hp =>
  k _ _ _ (Ext.laid e hp) (.tup (.inl (.inl upd_same)) (r.mono (same_new (e.free hp))))
theorem ros_fro : ∀ {vs : List V} {ds : List Dat}, Rs K cm F vs ds → ROs K cm F H vs (ds.map SV.fro) []
  | _, _, .nil => .nil
  | _, _, .cons r t => .cons (A := []) (B := []) (.fro r) (ros_fro t)
theorem frzs_fro (ds : List Dat) : frzs (ds.map SV.fro) = ds := by
  rw [frzs_map, List.map_map]
  have : frz ∘ SV.fro = id := by funext d; rw [Function.comp, frz]; rfl
  rw [this, List.map_id]
theorem own_lst (e : Same F H) (r : Rs K cm F vs ds) (k : ∀ v F' H' A, Ext F H F' H' → RO K cm F' H' v (.ol (ds.map SV.fro)) A → A.Nodup → (∀ a ∈ A, H a = none) → Q v H') : ∀ p, H p = none → Q (.ref p) (upd H p (.lst vs)) := fun p hp =>
  k _ F _ [p] (Ext.open e hp) (.ol (e.free hp) upd_same (ros_fro r)) (by simp) (by simpa using hp)
end

section
variable {X : Cx} {cm : CM}

/-! ### operators on ints, texts, lists -/
def rCatR : R2 := fun x y H Q => ∃ l b xs zs, x = .ref l ∧ y = .ref b ∧ Rd H l (.lst xs) ∧ Rd H b (.lst zs) ∧ xs.length + zs.length ≤ sizeLine ∧ ∀ p, H p = none → Q (.ref p) (upd H p (.lst (xs ++ zs)))
theorem op_catR : OpR X (binaryOp .Add) rCatR := by
  intro pins s σ H x y v u Q I rx ry ⟨l, b, xs, zs, ex, ey, h1, h2, hz, q⟩
  subst ex ey
  cases rx
  cases ry
  obtain ⟨z1, its1, n1, r1, e1⟩ := h1.ok I.hok
  obtain ⟨z2, its2, n2, r2, e2⟩ := h2.ok I.hok
  have l1 := r1.length
  have l2 := r2.length
  refine PySem.P.add_list e1 e2 ?_ (by rw [List.size_toArray, List.size_toArray]; omega)
  have ea : its1.toArray ++ its2.toArray = (its1 ++ its2).toArray := by simp
  rw [ea]
  exact ⟨.ref _, _, I.lnew (t' := s.toks) (r1.append r2) (by rw [List.length_append]; omega), rfl, q _ I.fresh⟩
def rAddA : R2 := fun x y H Q => (∃ i j, x = V.int i ∧ y = V.int j ∧ Q (.int (i + j)) H) ∨ ((∃ i j, x = V.str i ∧ y = V.str j ∧ i.length + j.length ≤ sizeLine ∧ Q (.str (i ++ j)) H) ∨ rCatR x y H Q)
theorem op_addA : OpR X (binaryOp .Add) rAddA := op_add.or (op_add_str.or op_catR)
def addD : Dat → Dat → Option Dat
  | .int i, .int j => some (.int (i + j))
  | .str x, .str y => @ite _ (x.length + y.length ≤ sizeLine) (Classical.propDecidable _) (some (.str (x ++ y))) none
  | .lst xs, .lst ys => @ite _ (xs.length + ys.length ≤ sizeLine) (Classical.propDecidable _) (some (.lst (xs ++ ys))) none
  | _, _ => none
theorem ifp {α : Sort _} {c : Prop} {I : Decidable c} {a b : α} (h : c) : @ite α c I a b = a := by
  cases I with
  | isTrue _ => rfl
  | isFalse n => exact absurd h n
theorem ite_some {α : Type} {c : Prop} {I : Decidable c} {x y : α} (h : (@ite _ c I (some x) none) = some y) : c ∧ x = y := by
  split at h
  · exact ⟨by assumption, Option.some.inj h⟩
  · cases h
theorem R.lst_inv {K : PySem.W.Frag} {F : Hp} {v : V} {ds : List Dat} (h : R K cm F v (.lst ds)) : ∃ a vs, v = .ref a ∧ Rd F a (.lst vs) ∧ Rs K cm F vs ds := by
  cases h with
  | lst h r => exact ⟨_, _, rfl, h, r⟩
theorem R.tup_inv {K : PySem.W.Frag} {F : Hp} {v : V} {ds : List Dat} (h : R K cm F v (.tup ds)) : ∃ a vs, v = .ref a ∧ SqT K F a vs ∧ Rs K cm F vs ds := by
  cases h with
  | tup h r => exact ⟨_, _, rfl, h, r⟩
theorem od_add : OpD X cm rAddA addD := by
  intro F H x y a b d Q e r1 r2 hg k
  unfold addD at hg
  split at hg
  · cases hg
    exact .inl ⟨_, _, r1.int_inv, r2.int_inv, k _ F H (Ext.refl e) (.int _)⟩
  · obtain ⟨c, rfl⟩ := ite_some hg
    exact .inr (.inl ⟨_, _, r1.str_inv, r2.str_inv, c, k _ F H (Ext.refl e) (.str _)⟩)
  · obtain ⟨c, rfl⟩ := ite_some hg
    obtain ⟨p, vs, rfl, h1, q1⟩ := r1.lst_inv
    obtain ⟨q, ws, rfl, h2, q2⟩ := r2.lst_inv
    refine .inr (.inr ⟨p, q, vs, ws, rfl, rfl, same_rd e h1, same_rd e h2, by rw [q1.length, q2.length]; exact c, new_lst e (q1.append q2) k⟩)
  · cases hg
theorem od_I {C : Int → Int → Prop} {g : Int → Int → Int} {f : Dat → Dat → Option Dat} (h : ∀ a b d, f a b = some d → ∃ i j, a = .int i ∧ b = .int j ∧ C i j ∧ d = .int (g i j)) : OpD X cm (rI C fun i j => .int (g i j)) f := fun F H x y a b d Q e r1 r2 hg k => by
  obtain ⟨i, j, rfl, rfl, hc, rfl⟩ := h a b d hg
  exact ⟨i, j, r1.int_inv, r2.int_inv, hc, k _ F H (Ext.refl e) (.int _)⟩
theorem od_I0 {g : Int → Int → Int} {f : Dat → Dat → Option Dat} (h : ∀ a b d, f a b = some d → ∃ i j, a = .int i ∧ b = .int j ∧ d = .int (g i j)) : OpD X cm (rI0 fun i j => .int (g i j)) f := fun F H x y a b d Q e r1 r2 hg k => by
  obtain ⟨i, j, rfl, rfl, rfl⟩ := h a b d hg
  exact ⟨i, j, r1.int_inv, r2.int_inv, k _ F H (Ext.refl e) (.int _)⟩
theorem od_B0 {g : Int → Int → Bool} {f : Dat → Dat → Option Dat} (h : ∀ a b d, f a b = some d → ∃ i j, a = .int i ∧ b = .int j ∧ d = .bl (g i j)) : OpD X cm (rI0 fun i j => .bl (g i j)) f := fun F H x y a b d Q e r1 r2 hg k => by
  obtain ⟨i, j, rfl, rfl, rfl⟩ := h a b d hg
  exact ⟨i, j, r1.int_inv, r2.int_inv, k _ F H (Ext.refl e) (.bl _)⟩
def subD : Dat → Dat → Option Dat
  | .int i, .int j => some (.int (i - j))
  | _, _ => none
def mulD : Dat → Dat → Option Dat
  | .int i, .int j => @ite _ ((-(2 ^ 64) < i ∧ i < 2 ^ 64) ∨ (-(2 ^ 64) < j ∧ j < 2 ^ 64)) (Classical.propDecidable _) (some (.int (i * j))) none
  | _, _ => none
def divD : Dat → Dat → Option Dat
  | .int i, .int j => @ite _ (0 < j ∧ j < 1073741824) (Classical.propDecidable _) (some (.int (i / j))) none
  | _, _ => none
def modD : Dat → Dat → Option Dat
  | .int i, .int j => @ite _ (0 < j) (Classical.propDecidable _) (some (.int (i % j))) none
  | _, _ => none
def powD : Dat → Dat → Option Dat
  | .int i, .int j => @ite _ (0 ≤ j ∧ j ≤ 1000000 ∧ i.natAbs < 2 ^ 64) (Classical.propDecidable _) (some (.int (i ^ j.toNat))) none
  | _, _ => none
def shlD : Dat → Dat → Option Dat
  | .int i, .int j => @ite _ (0 ≤ j ∧ j ≤ 1000000 ∧ i.natAbs < 2 ^ 64) (Classical.propDecidable _) (some (.int (i * 2 ^ j.toNat))) none
  | _, _ => none
def shrD : Dat → Dat → Option Dat
  | .int i, .int j => @ite _ (0 ≤ j) (Classical.propDecidable _) (some (.int (i / 2 ^ j.toNat))) none
  | _, _ => none
def andD : Dat → Dat → Option Dat
  | .int i, .int j => some (.int (Builtin.bitAnd i j))
  | _, _ => none
def xorD : Dat → Dat → Option Dat
  | .int i, .int j => some (.int (Builtin.bitXor i j))
  | _, _ => none
theorem od_sub : OpD X cm (rI0 fun i j => .int (i - j)) subD := od_I0 (g := fun i j => i - j) fun a b d h => by
  unfold subD at h
  split at h
  · cases h; exact ⟨_, _, rfl, rfl, rfl⟩
  · cases h
theorem od_mul : OpD X cm (rI CMul fun i j => .int (i * j)) mulD := od_I (g := fun i j => i * j) fun a b d h => by
  unfold mulD at h
  split at h
  · obtain ⟨c, rfl⟩ := ite_some h; exact ⟨_, _, rfl, rfl, c, rfl⟩
  · cases h
theorem od_div : OpD X cm (rI CDiv fun i j => .int (i / j)) divD := od_I (g := fun i j => i / j) fun a b d h => by
  unfold divD at h
  split at h
  · obtain ⟨c, rfl⟩ := ite_some h; exact ⟨_, _, rfl, rfl, c, rfl⟩
  · cases h
theorem od_mod : OpD X cm (rI (fun _ j => 0 < j) fun i j => .int (i % j)) modD := od_I (g := fun i j => i % j) fun a b d h => by
  unfold modD at h
  split at h
  · obtain ⟨c, rfl⟩ := ite_some h; exact ⟨_, _, rfl, rfl, c, rfl⟩
  · cases h
theorem od_pow : OpD X cm (rI CPow fun i j => .int (i ^ j.toNat)) powD := od_I (g := fun i j => i ^ j.toNat) fun a b d h => by
  unfold powD at h
  split at h
  · obtain ⟨c, rfl⟩ := ite_some h; exact ⟨_, _, rfl, rfl, c, rfl⟩
  · cases h
theorem od_shl : OpD X cm (rI CPow fun i j => .int (i * 2 ^ j.toNat)) shlD := od_I (g := fun i j => i * 2 ^ j.toNat) fun a b d h => by
  unfold shlD at h
  split at h
  · obtain ⟨c, rfl⟩ := ite_some h; exact ⟨_, _, rfl, rfl, c, rfl⟩
  · cases h
theorem od_shr : OpD X cm (rI (fun _ j => 0 ≤ j) fun i j => .int (i / 2 ^ j.toNat)) shrD := od_I (g := fun i j => i / 2 ^ j.toNat) fun a b d h => by
  unfold shrD at h
  split at h
  · obtain ⟨c, rfl⟩ := ite_some h; exact ⟨_, _, rfl, rfl, c, rfl⟩
  · cases h
theorem od_and : OpD X cm (rI0 fun i j => .int (Builtin.bitAnd i j)) andD := od_I0 (g := fun i j => Builtin.bitAnd i j) fun a b d h => by
  unfold andD at h
  split at h
  · cases h; exact ⟨_, _, rfl, rfl, rfl⟩
  · cases h
theorem od_xor : OpD X cm (rI0 fun i j => .int (Builtin.bitXor i j)) xorD := od_I0 (g := fun i j => Builtin.bitXor i j) fun a b d h => by
  unfold xorD at h
  split at h
  · cases h; exact ⟨_, _, rfl, rfl, rfl⟩
  · cases h
def negD : Dat → Option Dat
  | .int i => some (.int (-i))
  | _ => none
theorem ud_neg : UnD X cm (rU fun i => .int (-i)) negD := fun F H x a d Q e r hg k => by
  unfold negD at hg
  split at hg
  · cases hg; exact ⟨_, r.int_inv, k _ F H (Ext.refl e) (.int _)⟩
  · cases hg
variable {a b e : Expr} {fa fb : Rho → Option Dat} {pos : Pos}
theorem e_add (ha : PE X a (ofE X.K cm fa)) (hb : PE X b (ofE X.K cm fb)) : PE X (.BinOp a .Add b pos) (ofE X.K cm (bin addD fa fb)) := e_bin op_addA od_add ha hb
theorem e_sub (ha : PE X a (ofE X.K cm fa)) (hb : PE X b (ofE X.K cm fb)) : PE X (.BinOp a .Sub b pos) (ofE X.K cm (bin subD fa fb)) := e_bin op_sub od_sub ha hb
theorem e_mul (ha : PE X a (ofE X.K cm fa)) (hb : PE X b (ofE X.K cm fb)) : PE X (.BinOp a .Mult b pos) (ofE X.K cm (bin mulD fa fb)) := e_bin op_mul od_mul ha hb
theorem e_div (ha : PE X a (ofE X.K cm fa)) (hb : PE X b (ofE X.K cm fb)) : PE X (.BinOp a .FloorDiv b pos) (ofE X.K cm (bin divD fa fb)) := e_bin op_fdiv od_div ha hb
theorem e_mod (ha : PE X a (ofE X.K cm fa)) (hb : PE X b (ofE X.K cm fb)) : PE X (.BinOp a .Mod b pos) (ofE X.K cm (bin modD fa fb)) := e_bin op_mod od_mod ha hb
theorem e_pow (ha : PE X a (ofE X.K cm fa)) (hb : PE X b (ofE X.K cm fb)) : PE X (.BinOp a .Pow b pos) (ofE X.K cm (bin powD fa fb)) := e_bin op_pow od_pow ha hb
theorem e_shl (ha : PE X a (ofE X.K cm fa)) (hb : PE X b (ofE X.K cm fb)) : PE X (.BinOp a .LShift b pos) (ofE X.K cm (bin shlD fa fb)) := e_bin op_shl od_shl ha hb
theorem e_shr (ha : PE X a (ofE X.K cm fa)) (hb : PE X b (ofE X.K cm fb)) : PE X (.BinOp a .RShift b pos) (ofE X.K cm (bin shrD fa fb)) := e_bin op_shr od_shr ha hb
theorem e_and (ha : PE X a (ofE X.K cm fa)) (hb : PE X b (ofE X.K cm fb)) : PE X (.BinOp a .BitAnd b pos) (ofE X.K cm (bin andD fa fb)) := e_bin op_and od_and ha hb
theorem e_xor (ha : PE X a (ofE X.K cm fa)) (hb : PE X b (ofE X.K cm fb)) : PE X (.BinOp a .BitXor b pos) (ofE X.K cm (bin xorD fa fb)) := e_bin op_xor od_xor ha hb
theorem e_neg (ha : PE X a (ofE X.K cm fa)) : PE X (.UnaryOp .USub a pos) (ofE X.K cm (un negD fa)) := PE.imp (pe_un un_neg ha) fun σ H Q ⟨F, ρ, As, d, rel, hf, k⟩ => by
  obtain ⟨x, e1, hf⟩ := bind_some hf
  exact ⟨F, ρ, As, x, rel, e1, fun v F1 H1 x1 r1 => ud_neg F1 H1 v x d Q x1.fh r1 hf fun z F3 H3 x3 r3 => k z F3 H3 (x1.trans x3) r3⟩

/-! ### comparisons -/
def rOrd (p : Int → Int → Bool) (q : Str → Str → Bool) : R2 := fun x y H Q => (∃ i j, x = V.int i ∧ y = V.int j ∧ Q (.bl (p i j)) H) ∨ (∃ i j, x = V.str i ∧ y = V.str j ∧ Q (.bl (q i j)) H)
def ltD : Dat → Dat → Option Dat
  | .int i, .int j => some (.bl (decide (i < j)))
  | .str i, .str j => some (.bl (decide (i.cps.toList < j.cps.toList)))
  | _, _ => none
def leD : Dat → Dat → Option Dat
  | .int i, .int j => some (.bl (decide (i ≤ j)))
  | .str i, .str j => some (.bl (!decide (j.cps.toList < i.cps.toList)))
  | _, _ => none
def gtD : Dat → Dat → Option Dat
  | .int i, .int j => some (.bl (decide (j < i)))
  | .str i, .str j => some (.bl (decide (j.cps.toList < i.cps.toList)))
  | _, _ => none
def geD : Dat → Dat → Option Dat
  | .int i, .int j => some (.bl (decide (j ≤ i)))
  | .str i, .str j => some (.bl (!decide (i.cps.toList < j.cps.toList)))
  | _, _ => none
theorem od_ord {p : Int → Int → Bool} {q : Str → Str → Bool} {f : Dat → Dat → Option Dat} (h : ∀ a b d, f a b = some d → (∃ i j, a = .int i ∧ b = .int j ∧ d = .bl (p i j)) ∨ ∃ i j, a = .str i ∧ b = .str j ∧ d = .bl (q i j)) : OpD X cm (rOrd p q) f := fun F H x y a b d Q e r1 r2 hg k => by
  rcases h a b d hg with ⟨i, j, rfl, rfl, rfl⟩ | ⟨i, j, rfl, rfl, rfl⟩
  · exact .inl ⟨i, j, r1.int_inv, r2.int_inv, k _ F H (Ext.refl e) (.bl _)⟩
  · exact .inr ⟨i, j, r1.str_inv, r2.str_inv, k _ F H (Ext.refl e) (.bl _)⟩
theorem od_lt : OpD X cm (rOrd (fun i j => decide (i < j)) fun i j => decide (i.cps.toList < j.cps.toList)) ltD := od_ord fun a b d h => by
  unfold ltD at h
  split at h
  · cases h; exact .inl ⟨_, _, rfl, rfl, rfl⟩
  · cases h; exact .inr ⟨_, _, rfl, rfl, rfl⟩
  · cases h
theorem od_le : OpD X cm (rOrd (fun i j => decide (i ≤ j)) fun i j => !decide (j.cps.toList < i.cps.toList)) leD := od_ord fun a b d h => by
  unfold leD at h
  split at h
  · cases h; exact .inl ⟨_, _, rfl, rfl, rfl⟩
  · cases h; exact .inr ⟨_, _, rfl, rfl, rfl⟩
  · cases h
theorem od_gt : OpD X cm (rOrd (fun i j => decide (j < i)) fun i j => decide (j.cps.toList < i.cps.toList)) gtD := od_ord fun a b d h => by
  unfold gtD at h
  split at h
  · cases h; exact .inl ⟨_, _, rfl, rfl, rfl⟩
  · cases h; exact .inr ⟨_, _, rfl, rfl, rfl⟩
  · cases h
theorem od_ge : OpD X cm (rOrd (fun i j => decide (j ≤ i)) fun i j => !decide (i.cps.toList < j.cps.toList)) geD := od_ord fun a b d h => by
  unfold geD at h
  split at h
  · cases h; exact .inl ⟨_, _, rfl, rfl, rfl⟩
  · cases h; exact .inr ⟨_, _, rfl, rfl, rfl⟩
  · cases h
theorem op_ltA : OpR X (compareOp .Lt) (rOrd (fun i j => decide (i < j)) fun i j => decide (i.cps.toList < j.cps.toList)) := op_lt.or op_lt_str
theorem op_leA : OpR X (compareOp .LtE) (rOrd (fun i j => decide (i ≤ j)) fun i j => !decide (j.cps.toList < i.cps.toList)) := op_le.or op_le_str
theorem op_gtA : OpR X (compareOp .Gt) (rOrd (fun i j => decide (j < i)) fun i j => decide (j.cps.toList < i.cps.toList)) := op_gt.or op_gt_str
theorem op_geA : OpR X (compareOp .GtE) (rOrd (fun i j => decide (j ≤ i)) fun i j => !decide (i.cps.toList < j.cps.toList)) := op_ge.or op_ge_str
/-! is None, is not None -/
def isNo : Dat → Bool
  | .non => true
  | _ => false
theorem R.isN {K : PySem.W.Frag} {F : Hp} {v : V} {d : Dat} (h : R K cm F v d) : decide (v = .non) = isNo d := by
  cases h <;> rfl
def noneS (f : Rho → Option Dat) : Rho → Option Dat := un (fun d => some (.bl (isNo d))) f
def someS (f : Rho → Option Dat) : Rho → Option Dat := un (fun d => some (.bl (!isNo d))) f
theorem none_of {f : Rho → Option Dat} : ∀ σ H Q, ofE X.K cm (noneS f) σ H Q → tIsN (ofE X.K cm f) σ H Q := fun σ H Q ⟨F, ρ, As, d, rel, hf, k⟩ => by
  obtain ⟨x, e1, hf⟩ := bind_some hf
  cases hf
  exact ⟨F, ρ, As, x, rel, e1, fun v F1 H1 x1 r1 => by
    show Q (V.bl (decide (v = .non))) H1
    rw [r1.isN]
    exact k _ F1 H1 x1 (.bl _)⟩
theorem some_of {f : Rho → Option Dat} : ∀ σ H Q, ofE X.K cm (someS f) σ H Q → tNotN (ofE X.K cm f) σ H Q := fun σ H Q ⟨F, ρ, As, d, rel, hf, k⟩ => by
  obtain ⟨x, e1, hf⟩ := bind_some hf
  cases hf
  exact ⟨F, ρ, As, x, rel, e1, fun v F1 H1 x1 r1 => by
    show Q (V.bl (!decide (v = .non))) H1
    rw [r1.isN]
    exact k _ F1 H1 x1 (.bl _)⟩
theorem e_isN {j p} (ha : PE X a (ofE X.K cm fa)) : PE X (.Compare a [.Is] [.Constant .none j p] pos) (ofE X.K cm (noneS fa)) := PE.imp (pe_cmp (pc_isN ha) rfl) none_of
theorem e_notN {j p} (ha : PE X a (ofE X.K cm fa)) : PE X (.Compare a [.IsNot] [.Constant .none j p] pos) (ofE X.K cm (someS fa)) := PE.imp (pe_cmp (pc_notN ha) rfl) some_of
theorem t_isN {j p} (ha : PE X a (ofE X.K cm fa)) : PT X (.Compare a [.Is] [.Constant .none j p] pos) (ofT X.K cm (tst (noneS fa))) := PT.imp (pt_cmp (pc_isN ha)) fun σ H Q q => none_of σ H _ (tst_of σ H Q q)
theorem t_notN {j p} (ha : PE X a (ofE X.K cm fa)) : PT X (.Compare a [.IsNot] [.Constant .none j p] pos) (ofT X.K cm (tst (someS fa))) := PT.imp (pt_cmp (pc_notN ha)) fun σ H Q q => some_of σ H _ (tst_of σ H Q q)
/-! the comparisons' short words -/
theorem e_eq (hu : X.A.units + 64 < cLine) (ha : PE X a (ofE X.K cm fa)) (hb : PE X b (ofE X.K cm fb)) : PE X (.Compare a [.Eq] [b] pos) (ofE X.K cm (bin eqD fa fb)) := e_cmp (op_deq hu) od_eq ha hb (nomark _)
theorem e_ne (hu : X.A.units + 64 < cLine) (ha : PE X a (ofE X.K cm fa)) (hb : PE X b (ofE X.K cm fb)) : PE X (.Compare a [.NotEq] [b] pos) (ofE X.K cm (bin neD fa fb)) := e_cmp (op_dne hu) od_ne ha hb (nomark _)
theorem t_eq (hu : X.A.units + 64 < cLine) (ha : PE X a (ofE X.K cm fa)) (hb : PE X b (ofE X.K cm fb)) : PT X (.Compare a [.Eq] [b] pos) (ofT X.K cm (tst (bin eqD fa fb))) := t_cmp (op_deq hu) od_eq ha hb (nomark _)
theorem t_ne (hu : X.A.units + 64 < cLine) (ha : PE X a (ofE X.K cm fa)) (hb : PE X b (ofE X.K cm fb)) : PT X (.Compare a [.NotEq] [b] pos) (ofT X.K cm (tst (bin neD fa fb))) := t_cmp (op_dne hu) od_ne ha hb (nomark _)
theorem e_lt (ha : PE X a (ofE X.K cm fa)) (hb : PE X b (ofE X.K cm fb)) : PE X (.Compare a [.Lt] [b] pos) (ofE X.K cm (bin ltD fa fb)) := e_cmp op_ltA od_lt ha hb (nomark _)
theorem e_le (ha : PE X a (ofE X.K cm fa)) (hb : PE X b (ofE X.K cm fb)) : PE X (.Compare a [.LtE] [b] pos) (ofE X.K cm (bin leD fa fb)) := e_cmp op_leA od_le ha hb (nomark _)
theorem e_gt (ha : PE X a (ofE X.K cm fa)) (hb : PE X b (ofE X.K cm fb)) : PE X (.Compare a [.Gt] [b] pos) (ofE X.K cm (bin gtD fa fb)) := e_cmp op_gtA od_gt ha hb (nomark _)
theorem e_ge (ha : PE X a (ofE X.K cm fa)) (hb : PE X b (ofE X.K cm fb)) : PE X (.Compare a [.GtE] [b] pos) (ofE X.K cm (bin geD fa fb)) := e_cmp op_geA od_ge ha hb (nomark _)
theorem t_lt (ha : PE X a (ofE X.K cm fa)) (hb : PE X b (ofE X.K cm fb)) : PT X (.Compare a [.Lt] [b] pos) (ofT X.K cm (tst (bin ltD fa fb))) := t_cmp op_ltA od_lt ha hb (nomark _)
theorem t_le (ha : PE X a (ofE X.K cm fa)) (hb : PE X b (ofE X.K cm fb)) : PT X (.Compare a [.LtE] [b] pos) (ofT X.K cm (tst (bin leD fa fb))) := t_cmp op_leA od_le ha hb (nomark _)
theorem t_gt (ha : PE X a (ofE X.K cm fa)) (hb : PE X b (ofE X.K cm fb)) : PT X (.Compare a [.Gt] [b] pos) (ofT X.K cm (tst (bin gtD fa fb))) := t_cmp op_gtA od_gt ha hb (nomark _)
theorem t_ge (ha : PE X a (ofE X.K cm fa)) (hb : PE X b (ofE X.K cm fb)) : PT X (.Compare a [.GtE] [b] pos) (ofT X.K cm (tst (bin geD fa fb))) := t_cmp op_geA od_ge ha hb (nomark _)
/-! a ? b ? c .. -/
def ch1 (g : Dat → Dat → Option Dat) (f : Rho → Option Dat) : Dat → Rho → Option Dat := fun x ρ => (f ρ).bind fun y => g x y
def chC (g : Dat → Dat → Option Dat) (f : Rho → Option Dat) (c : Dat → Rho → Option Dat) : Dat → Rho → Option Dat := fun x ρ => (f ρ).bind fun y => (g x y).bind fun
  | .bl true => c y ρ
  | .bl false => some (.bl false)
  | _ => none
def chn (f : Rho → Option Dat) (c : Dat → Rho → Option Dat) : Rho → Option Dat := fun ρ => (f ρ).bind fun x => c x ρ
structure PCh (X : Cx) (cm : CM) (ops : List CmpOp) (es : List Expr) (c : Dat → Rho → Option Dat) : Prop where
  val : ∀ (pos : Pos) (pins : List (Addr × Obj)) (s : Shared) (σ : L2.St) (F H : Hp) (ρ : Rho) (As : Nat → List Addr) (v : V) (u : Value) (x d : Dat) (Q : VK), Inv X pins σ H s → Rel X.K cm F H σ ρ As → R X.K cm F v x → RelV v u → c x ρ = some d →
    (∀ v' F' H', Ext F H F' H' → R X.K cm F' v' d → Q v' H') → wpAny (model X.prog X.w) X.A (compareChain pos u ops (evalEach es X.env)) (EP X pins σ Q) X.xe s
  tst : ∀ (pos : Pos) (pins : List (Addr × Obj)) (s : Shared) (σ : L2.St) (F H : Hp) (ρ : Rho) (As : Nat → List Addr) (v : V) (u : Value) (x : Dat) (k : Bool) (Q : Bool → Hp → Prop), Inv X pins σ H s → Rel X.K cm F H σ ρ As → R X.K cm F v x → RelV v u → c x ρ = some (.bl k) →
    (∀ F' H', Ext F H F' H' → Q k H') → wpAny (model X.prog X.w) X.A (testChain pos u ops (evalEach es X.env)) (TP X pins σ Q) X.xe s
theorem ch_one {op : CmpOp} {r : R2} {g : Dat → Dat → Option Dat} (ho : OpR X (compareOp op) r) (hd : OpD X cm r g) (hb : PE X b (ofE X.K cm fb)) : PCh X cm [op] [b] (ch1 g fb) := by
  refine ⟨fun pos pins s σ F H ρ As v u x d Q I rel rx ru hf k => ?_, fun pos pins s σ F H ρ As v u x c Q I rel rx ru hf k => ?_⟩
  · obtain ⟨y, e1, hf⟩ := bind_some hf
    refine chain_last (thn (hb.run pins s σ H _ I ⟨F, ρ, As, y, rel, e1, fun v1 F1 H1 x1 r1 => ?_⟩) fun u1 s1 ⟨v1, H1, I1, t1, q1⟩ => ho pins s1 σ H1 v v1 u u1 Q I1 ru t1 q1)
    exact hd F1 H1 v v1 x y d Q x1.fh (rx.mono x1.f) r1 hf fun v2 F2 H2 x2 r2 => k v2 F2 H2 (x1.trans x2) r2
  · obtain ⟨y, e1, hf⟩ := bind_some hf
    refine test_last (thn (hb.run pins s σ H (fun v1 H1 => r v v1 H1 fun z H2 => z = .bl c ∧ Q c H2) I ⟨F, ρ, As, y, rel, e1, fun v1 F1 H1 x1 r1 => ?_⟩) fun u1 s1 ⟨v1, H1, I1, t1, q1⟩ => thn (ho pins s1 σ H1 v v1 u u1 _ I1 ru t1 q1) fun u2 s2 ⟨z, H2, I2, t2, ez, q2⟩ => ?_)
    · exact hd F1 H1 v v1 x y (.bl c) _ x1.fh (rx.mono x1.f) r1 hf fun v2 F2 H2 x2 r2 => ⟨r2.bl_inv, k F2 H2 (x1.trans x2)⟩
    · subst ez
      cases t2
      exact wpAny_truthy_bool ⟨H2, I2, q2⟩
theorem ch_cons {op op' : CmpOp} {ops : List CmpOp} {b' : Expr} {bs : List Expr} {c : Dat → Rho → Option Dat} {r : R2} {g : Dat → Dat → Option Dat} (ho : OpR X (compareOp op) r) (hd : OpD X cm r g) (hb : PE X b (ofE X.K cm fb)) (hc : PCh X cm (op' :: ops) (b' :: bs) c) : PCh X cm (op :: op' :: ops) (b :: b' :: bs) (chC g fb c) := by
  refine ⟨fun pos pins s σ F H ρ As v u x d Q I rel rx ru hf k => ?_, fun pos pins s σ F H ρ As v u x j Q I rel rx ru hf k => ?_⟩
  · obtain ⟨y, e1, hf⟩ := bind_some hf
    obtain ⟨z, e2, hf⟩ := bind_some hf
    refine chain_link (thn (hb.run pins s σ H (fun v1 H1 => r v v1 H1 fun w H2 => ∃ F1 F2, Ext F H F1 H1 ∧ R X.K cm F1 v1 y ∧ Ext F1 H1 F2 H2 ∧ R X.K cm F2 w z) I ⟨F, ρ, As, y, rel, e1, fun v1 F1 H1 x1 r1 => ?_⟩) fun u1 s1 ⟨v1, H1, I1, t1, q1⟩ => thn (ho pins s1 σ H1 v v1 u u1 _ I1 ru t1 q1) fun u2 s2 ⟨w, H2, I2, t2, F1, F2, x1, r1, x2, r2⟩ => ?_)
    · exact hd F1 H1 v v1 x y z _ x1.fh (rx.mono x1.f) r1 e2 fun v2 F2 H2 x2 r2 => ⟨F1, F2, x1, r1, x2, r2⟩
    · cases z with
      | bl k' =>
        have ew := r2.bl_inv
        subst ew
        cases t2
        refine wpAny_truthy_bool ?_
        cases k' with
        | true => exact ite_tt (hc.val pos pins s2 σ F2 H2 ρ As v1 u1 y d Q I2 ((rel.ext x1).ext x2) (r1.mono x2.f) t1 hf fun v3 F3 H3 x3 r3 => k v3 F3 H3 (x1.trans (x2.trans x3)) r3)
        | false =>
          cases hf
          exact ite_ff ⟨.bl false, H2, I2, rfl, k _ F2 H2 (x1.trans x2) (.bl false)⟩
      | _ => cases hf
  · obtain ⟨y, e1, hf⟩ := bind_some hf
    obtain ⟨z, e2, hf⟩ := bind_some hf
    refine test_link (thn (hb.run pins s σ H (fun v1 H1 => r v v1 H1 fun w H2 => ∃ F1 F2, Ext F H F1 H1 ∧ R X.K cm F1 v1 y ∧ Ext F1 H1 F2 H2 ∧ R X.K cm F2 w z) I ⟨F, ρ, As, y, rel, e1, fun v1 F1 H1 x1 r1 => ?_⟩) fun u1 s1 ⟨v1, H1, I1, t1, q1⟩ => thn (ho pins s1 σ H1 v v1 u u1 _ I1 ru t1 q1) fun u2 s2 ⟨w, H2, I2, t2, F1, F2, x1, r1, x2, r2⟩ => ?_)
    · exact hd F1 H1 v v1 x y z _ x1.fh (rx.mono x1.f) r1 e2 fun v2 F2 H2 x2 r2 => ⟨F1, F2, x1, r1, x2, r2⟩
    · cases z with
      | bl k' =>
        have ew := r2.bl_inv
        subst ew
        cases t2
        refine wpAny_truthy_bool ?_
        cases k' with
        | true => exact ite_tt (hc.tst pos pins s2 σ F2 H2 ρ As v1 u1 y j Q I2 ((rel.ext x1).ext x2) (r1.mono x2.f) t1 hf fun F3 H3 x3 => k F3 H3 (x1.trans (x2.trans x3)))
        | false =>
          cases hf
          exact ite_ff ⟨H2, I2, k F2 H2 (x1.trans x2)⟩
      | _ => cases hf
theorem e_chn {op op' : CmpOp} {ops : List CmpOp} {b b' : Expr} {bs : List Expr} {c : Dat → Rho → Option Dat} (ha : PE X a (ofE X.K cm fa)) (hc : PCh X cm (op :: op' :: ops) (b :: b' :: bs) c) (hm : lastMarks (op :: op' :: ops) (b :: b' :: bs) = false := by with_unfolding_all rfl) : PE X (.Compare a (op :: op' :: ops) (b :: b' :: bs) pos) (ofE X.K cm (chn fa c)) := by
  refine ⟨fun pins s σ H Q I ⟨F, ρ, As, d, rel, hf, k⟩ => ?_⟩
  obtain ⟨x, e1, hf⟩ := bind_some hf
  refine Compare_chain (thn (ha.run pins s σ H (fun v1 H1 => ∃ F1, Ext F H F1 H1 ∧ R X.K cm F1 v1 x) I ⟨F, ρ, As, x, rel, e1, fun v1 F1 H1 x1 r1 => ⟨F1, x1, r1⟩⟩) fun u1 s1 ⟨v1, H1, I1, t1, F1, x1, r1⟩ => ?_) hm
  exact hc.val pos pins s1 σ F1 H1 ρ As v1 u1 x d Q I1 (rel.ext x1) r1 t1 hf fun v2 F2 H2 x2 r2 => k v2 F2 H2 (x1.trans x2) r2
theorem t_chn {op op' : CmpOp} {ops : List CmpOp} {b b' : Expr} {bs : List Expr} {c : Dat → Rho → Option Dat} (ha : PE X a (ofE X.K cm fa)) (hc : PCh X cm (op :: op' :: ops) (b :: b' :: bs) c) (hm : lastMarks (op :: op' :: ops) (b :: b' :: bs) = false := by with_unfolding_all rfl) : PT X (.Compare a (op :: op' :: ops) (b :: b' :: bs) pos) (ofT X.K cm (tst (chn fa c))) := by
  refine ⟨fun pins s σ H Q I ⟨F, ρ, As, d, rel, hf, k⟩ => ?_⟩
  obtain ⟨x, e1, hf⟩ := bind_some (tst_some hf)
  refine isTrue_chain (thn (ha.run pins s σ H (fun v1 H1 => ∃ F1, Ext F H F1 H1 ∧ R X.K cm F1 v1 x) I ⟨F, ρ, As, x, rel, e1, fun v1 F1 H1 x1 r1 => ⟨F1, x1, r1⟩⟩) fun u1 s1 ⟨v1, H1, I1, t1, F1, x1, r1⟩ => ?_) hm
  exact hc.tst pos pins s1 σ F1 H1 ρ As v1 u1 x d Q I1 (rel.ext x1) r1 t1 hf fun F2 H2 x2 => k F2 H2 (x1.trans x2)
end
end
end Pq

namespace Pq
open PySem PySem.Spec PyProof.Rows L2
noncomputable section
section
variable {X : Cx} {cm : CM} {a b e : Expr} {es : List Expr} {fa fb : Rho → Option Dat} {pos : Pos}

/-! ### arguments -/
def consA (f : Rho → Option Dat) (g : Rho → Option (List Dat)) : Rho → Option (List Dat) := fun ρ => (f ρ).bind fun x => (g ρ).map fun xs => x :: xs
def nilA : Rho → Option (List Dat) := fun _ => some []
theorem a_nil : PA X [] (ofA X.K cm nilA) := PA.imp pa_nil fun σ H Q ⟨F, ρ, As, ds, rel, hf, k⟩ => by
  cases hf
  exact k [] F H (Ext.refl rel.fh) .nil
theorem map_some' {α β : Type} {x : Option α} {f : α → β} {y : β} (h : x.map f = some y) : ∃ z, x = some z ∧ f z = y := by
  cases x with
  | none => cases h
  | some z => exact ⟨z, rfl, Option.some.inj h⟩
theorem a_cons {fs : Rho → Option (List Dat)} (ha : PE X a (ofE X.K cm fa)) (hs : PA X es (ofA X.K cm fs)) (hst : starEach (a :: es) X.env = (false, eval a X.env) :: starEach es X.env := by rfl) : PA X (a :: es) (ofA X.K cm (consA fa fs)) := PA.imp (pa_cons ha hs hst) fun σ H Q ⟨F, ρ, As, ds, rel, hf, k⟩ => by
  obtain ⟨x, e1, hf⟩ := bind_some hf
  obtain ⟨xs, e2, rfl⟩ := map_some' hf
  exact ⟨F, ρ, As, x, rel, e1, fun v F1 H1 x1 r1 => ⟨F1, ρ, As, xs, rel.ext x1, e2, fun vs F2 H2 x2 r2 => k (v :: vs) F2 H2 (x1.trans x2) (.cons (r1.mono x2.f) r2)⟩⟩
/-- with what is one's own -/
def ofAO (K : PySem.W.Frag) (cm : CM) (f : Rho → Option (List SV)) : TA := fun σ H Q => ∃ F ρ As ds, Rel K cm F H σ ρ As ∧ f ρ = some ds ∧ ∀ vs F' H' A, Ext F H F' H' → ROs K cm F' H' vs ds A → A.Nodup → (∀ a ∈ A, H a = none) → Q vs H'
def consO (f : Rho → Option SV) (g : Rho → Option (List SV)) : Rho → Option (List SV) := fun ρ => (f ρ).bind fun x => (g ρ).map fun xs => x :: xs
def nilO : Rho → Option (List SV) := fun _ => some []
def froS (f : Rho → Option Dat) : Rho → Option SV := fun ρ => (f ρ).map SV.fro
def frzS (f : Rho → Option SV) : Rho → Option Dat := fun ρ => (f ρ).map frz
/-- settled data, taken as one's own -/
theorem o_e (h : PE X e (ofE X.K cm fa)) : PE X e (ofO X.K cm (froS fa)) := PE.imp h fun σ H Q ⟨F, ρ, As, sv, rel, hf, k⟩ => by
  obtain ⟨d, e1, rfl⟩ := map_some' hf
  exact ⟨F, ρ, As, d, rel, e1, fun v F1 H1 x1 r1 => k v F1 H1 [] x1 (.fro r1) .nil (by simp)⟩
/-- one's own, settled -/
theorem e_o {f : Rho → Option SV} (h : PE X e (ofO X.K cm f)) : PE X e (ofE X.K cm (frzS f)) := PE.imp h fun σ H Q ⟨F, ρ, As, d, rel, hf, k⟩ => by
  obtain ⟨sv, e1, rfl⟩ := map_some' hf
  refine ⟨F, ρ, As, sv, rel, e1, fun v F1 H1 A x1 r1 nd hA => ?_⟩
  refine k v (plus F1 H1 A) H1 ⟨x1.f.trans (plus_same fun a h => (r1.own a h).1), x1.h, plus_le x1.fh, fun a o h n => ?_⟩ (r1.frz x1.fh)
  by_cases q : a ∈ A
  · exact hA a q
  · rw [plus_out q] at h
    exact x1.new a o h n
theorem ao_nil : PA X [] (ofAO X.K cm nilO) := PA.imp pa_nil fun σ H Q ⟨F, ρ, As, ds, rel, hf, k⟩ => by
  cases hf
  exact k [] F H [] (Ext.refl rel.fh) .nil .nil (by simp)
theorem ao_cons {f : Rho → Option SV} {fs : Rho → Option (List SV)} (ha : PE X a (ofO X.K cm f)) (hs : PA X es (ofAO X.K cm fs)) (hst : starEach (a :: es) X.env = (false, eval a X.env) :: starEach es X.env := by rfl) : PA X (a :: es) (ofAO X.K cm (consO f fs)) := PA.imp (pa_cons ha hs hst) fun σ H Q ⟨F, ρ, As, ds, rel, hf, k⟩ => by
  obtain ⟨x, e1, hf⟩ := bind_some hf
  obtain ⟨xs, e2, rfl⟩ := map_some' hf
  refine ⟨F, ρ, As, x, rel, e1, fun v F1 H1 A x1 r1 nd1 n1 => ⟨F1, ρ, As, xs, rel.ext x1, e2, fun vs F2 H2 B x2 r2 nd2 n2 => k (v :: vs) F2 H2 (A ++ B) (x1.trans x2) (.cons (r1.ext x2) r2) ?_ fun a h => ?_⟩⟩
  · refine List.nodup_append.mpr ⟨nd1, nd2, fun a h1 b h2 z => ?_⟩
    subst z
    obtain ⟨_, o, q⟩ := r1.own a h1
    rw [n2 a h2] at q
    cases q
  · rcases List.mem_append.mp h with h | h
    · exact n1 a h
    · exact x1.h.free (n2 a h)

/-! ### displays -/
def lim (ds : List Dat) : Option (List Dat) := @ite _ (ds.length ≤ sizeLine) (Classical.propDecidable _) (some ds) none
def lstS (f : Rho → Option (List Dat)) : Rho → Option Dat := fun ρ => (f ρ).bind fun ds => @ite _ (ds.length ≤ sizeLine) (Classical.propDecidable _) (some (.lst ds)) none
def tupS (f : Rho → Option (List Dat)) : Rho → Option Dat := fun ρ => (f ρ).bind fun ds => @ite _ (ds.length ≤ sizeLine) (Classical.propDecidable _) (some (.tup ds)) none
def lstO (f : Rho → Option (List SV)) : Rho → Option SV := fun ρ => (f ρ).bind fun ds => @ite _ (ds.length ≤ sizeLine) (Classical.propDecidable _) (some (.ol ds)) none
def tupO (f : Rho → Option (List SV)) : Rho → Option SV := fun ρ => (f ρ).bind fun ds => @ite _ (ds.length ≤ sizeLine) (Classical.propDecidable _) (some (.tp ds)) none
theorem e_lst {fs : Rho → Option (List Dat)} (h : PA X es (ofA X.K cm fs)) : PE X (.List es pos) (ofE X.K cm (lstS fs)) := PE.imp (pe_lst h) fun σ H Q ⟨F, ρ, As, d, rel, hf, k⟩ => by
  obtain ⟨ds, e1, hf⟩ := bind_some hf
  obtain ⟨c, rfl⟩ := ite_some hf
  exact ⟨F, ρ, As, ds, rel, e1, fun vs F1 H1 x1 r1 => ⟨by rw [r1.length]; exact c, new_lst x1.fh r1 fun v F2 H2 x2 r2 => k v F2 H2 (x1.trans x2) r2⟩⟩
theorem e_tup {fs : Rho → Option (List Dat)} {x1 : Nat} (h : PA X es (ofA X.K cm fs)) : PE X (.Tuple es x1 pos) (ofE X.K cm (tupS fs)) := PE.imp (pe_tup h) fun σ H Q ⟨F, ρ, As, d, rel, hf, k⟩ => by
  obtain ⟨ds, e1, hf⟩ := bind_some hf
  obtain ⟨c, rfl⟩ := ite_some hf
  exact ⟨F, ρ, As, ds, rel, e1, fun vs F1 H1 x1 r1 => ⟨by rw [r1.length]; exact c, new_tup x1.fh r1 fun v F2 H2 x2 r2 => k v F2 H2 (x1.trans x2) r2⟩⟩
theorem ROs.length {K : PySem.W.Frag} {F H : Hp} : ∀ {vs : List V} {xs : List SV} {A : List Addr}, ROs K cm F H vs xs A → vs.length = xs.length
  | _, _, _, .nil => rfl
  | _, _, _, .cons _ t => by rw [List.length_cons, List.length_cons, ROs.length t]
theorem own_new {F H F1 H1 : Hp} {A : List Addr} (x1 : Ext F H F1 H1) (r : ∀ a ∈ A, F1 a = none ∧ ∃ o, H1 a = some o) (nd : A.Nodup) (n : ∀ a ∈ A, H a = none) {p : Addr} (hp : H1 p = none) : (p :: A).Nodup ∧ ∀ a ∈ p :: A, H a = none := by
  refine ⟨List.nodup_cons.mpr ⟨fun h => ?_, nd⟩, fun a h => ?_⟩
  · obtain ⟨_, o, q⟩ := r p h
    rw [hp] at q
    cases q
  · rcases List.mem_cons.mp h with rfl | h
    · exact x1.h.free hp
    · exact n a h
theorem o_lst {fs : Rho → Option (List SV)} (h : PA X es (ofAO X.K cm fs)) : PE X (.List es pos) (ofO X.K cm (lstO fs)) := PE.imp (pe_lst h) fun σ H Q ⟨F, ρ, As, d, rel, hf, k⟩ => by
  obtain ⟨ds, e1, hf⟩ := bind_some hf
  obtain ⟨c, rfl⟩ := ite_some hf
  refine ⟨F, ρ, As, ds, rel, e1, fun vs F1 H1 A x1 r1 nd n1 => ⟨by rw [r1.length]; exact c, fun p hp => ?_⟩⟩
  obtain ⟨nd', n'⟩ := own_new x1 r1.own nd n1 hp
  exact k _ F1 _ (p :: A) (x1.trans (Ext.open x1.fh hp)) (.ol (x1.fh.free hp) upd_same (r1.ext (Ext.open x1.fh hp))) nd' n'
theorem o_tup {fs : Rho → Option (List SV)} {x1 : Nat} (h : PA X es (ofAO X.K cm fs)) : PE X (.Tuple es x1 pos) (ofO X.K cm (tupO fs)) := PE.imp (pe_tup h) fun σ H Q ⟨F, ρ, As, d, rel, hf, k⟩ => by
  obtain ⟨ds, e1, hf⟩ := bind_some hf
  obtain ⟨c, rfl⟩ := ite_some hf
  refine ⟨F, ρ, As, ds, rel, e1, fun vs F1 H1 A x1 r1 nd n1 => ⟨by rw [r1.length]; exact c, fun p hp => ?_⟩⟩
  obtain ⟨nd', n'⟩ := own_new x1 r1.own nd n1 hp
  exact k _ F1 _ (p :: A) (x1.trans (Ext.open x1.fh hp)) (.tp (x1.fh.free hp) upd_same (r1.ext (Ext.open x1.fh hp))) nd' n'

/-! ### calls of built-ins -/
def app (g : List Dat → Option Dat) (f : Rho → Option (List Dat)) : Rho → Option Dat := fun ρ => (f ρ).bind g
def appO (g : List Dat → Option SV) (f : Rho → Option (List Dat)) : Rho → Option SV := fun ρ => (f ρ).bind g
def ClD (X : Cx) (cm : CM) (r : List V → Hp → VK → Prop) (g : List Dat → Option Dat) : Prop := ∀ F H vs ds d (Q : VK), Same F H → Rs X.K cm F vs ds → g ds = some d → (∀ v F' H', Ext F H F' H' → R X.K cm F' v d → Q v H') → r vs H Q
def ClO (X : Cx) (cm : CM) (r : List V → Hp → VK → Prop) (g : List Dat → Option SV) : Prop := ∀ F H vs ds sv (Q : VK), Same F H → Rs X.K cm F vs ds → g ds = some sv → (∀ v F' H' A, Ext F H F' H' → RO X.K cm F' H' v sv A → A.Nodup → (∀ a ∈ A, H a = none) → Q v H') → r vs H Q
theorem app_of {r : List V → Hp → VK → Prop} {g : List Dat → Option Dat} {fs : Rho → Option (List Dat)} (hd : ClD X cm r g) : ∀ σ H Q, ofE X.K cm (app g fs) σ H Q → tCB r (ofA X.K cm fs) σ H Q := fun σ H Q ⟨F, ρ, As, d, rel, hf, k⟩ => by
  obtain ⟨ds, e1, hf⟩ := bind_some hf
  exact ⟨F, ρ, As, ds, rel, e1, fun vs F1 H1 x1 r1 => hd F1 H1 vs ds d Q x1.fh r1 hf fun v F2 H2 x2 r2 => k v F2 H2 (x1.trans x2) r2⟩
theorem appO_of {r : List V → Hp → VK → Prop} {g : List Dat → Option SV} {fs : Rho → Option (List Dat)} (hd : ClO X cm r g) : ∀ σ H Q, ofO X.K cm (appO g fs) σ H Q → tCB r (ofA X.K cm fs) σ H Q := fun σ H Q ⟨F, ρ, As, d, rel, hf, k⟩ => by
  obtain ⟨ds, e1, hf⟩ := bind_some hf
  exact ⟨F, ρ, As, ds, rel, e1, fun vs F1 H1 x1 r1 => hd F1 H1 vs ds d Q x1.fh r1 hf fun v F2 H2 A x2 r2 nd n => k v F2 H2 A (x1.trans x2) r2 nd fun a h => x1.h.free (n a h)⟩
variable {x : Str} {p : Pos} {id T : String} {r : List V → Hp → VK → Prop} {g : List Dat → Option Dat} {gO : List Dat → Option SV} {fs : Rho → Option (List Dat)}
theorem e_callB (hc : CallR X (.builtin id) r) (hd : ClD X cm r g) (hg : Gl X x) (hm : X.mg x = none) (hv : bootBuiltins x = some (.builtin id)) (ha : PA X (e :: es) (ofA X.K cm fs)) (hn : x ≠ "__name__" := by decide) (hdb : (x == ("__debug__" : Str)) = false := by decide)
    (he : starEach (e :: es) X.env = (false, eval e X.env) :: starEach es X.env := by rfl) (hpl : (backTo pos (starEach es X.env)).any (·.1) = false := by rfl) : PE X (.Call (.Name x p) (e :: es) [] pos) (ofE X.K cm (app g fs)) := PE.imp (pe_callB hc hg hm hv ha hn hdb he hpl) (app_of hd)
theorem e_callT (hc : CallR X (.type T) r) (hd : ClD X cm r g) (hg : Gl X x) (hm : X.mg x = none) (hv : bootBuiltins x = some (.type T)) (ha : PA X (e :: es) (ofA X.K cm fs)) (hn : x ≠ "__name__" := by decide) (hdb : (x == ("__debug__" : Str)) = false := by decide)
    (he : starEach (e :: es) X.env = (false, eval e X.env) :: starEach es X.env := by rfl) (hpl : (backTo pos (starEach es X.env)).any (·.1) = false := by rfl) : PE X (.Call (.Name x p) (e :: es) [] pos) (ofE X.K cm (app g fs)) := PE.imp (pe_callTy hc hg hm hv ha hn hdb he hpl) (app_of hd)
theorem o_callT (hc : CallR X (.type T) r) (hd : ClO X cm r gO) (hg : Gl X x) (hm : X.mg x = none) (hv : bootBuiltins x = some (.type T)) (ha : PA X (e :: es) (ofA X.K cm fs)) (hn : x ≠ "__name__" := by decide) (hdb : (x == ("__debug__" : Str)) = false := by decide)
    (he : starEach (e :: es) X.env = (false, eval e X.env) :: starEach es X.env := by rfl) (hpl : (backTo pos (starEach es X.env)).any (·.1) = false := by rfl) : PE X (.Call (.Name x p) (e :: es) [] pos) (ofO X.K cm (appO gO fs)) := PE.imp (pe_callTy hc hg hm hv ha hn hdb he hpl) (appO_of hd)
theorem Rs.one {K : PySem.W.Frag} {F : Hp} {vs : List V} {d : Dat} (h : Rs K cm F vs [d]) : ∃ v, vs = [v] ∧ R K cm F v d := by
  cases h with
  | cons r t => cases t; exact ⟨_, rfl, r⟩
theorem Rs.two {K : PySem.W.Frag} {F : Hp} {vs : List V} {d d' : Dat} (h : Rs K cm F vs [d, d']) : ∃ v v', vs = [v, v'] ∧ R K cm F v d ∧ R K cm F v' d' := by
  cases h with
  | cons r t =>
    obtain ⟨v', rfl, r'⟩ := t.one
    exact ⟨_, v', rfl, r, r'⟩
theorem R.scr_inv {K : PySem.W.Frag} {F : Hp} {v : V} {ds : List Dat} (h : R K cm F v (.scr ds)) : ∃ a vs, v = .ref a ∧ SqL K F a vs ∧ Rs K cm F vs ds := by
  cases h with
  | scr h r => exact ⟨_, _, rfl, h, r⟩
theorem R.dct_inv {K : PySem.W.Frag} {F : Hp} {v : V} {ks : List Key} {ds : List Dat} (h : R K cm F v (.dct ks ds)) : ∃ a kvs, v = .ref a ∧ Rd F a (.dK kvs) ∧ kvs.map (·.1) = ks ∧ Rs K cm F (kvs.map (·.2)) ds := by
  cases h with
  | dct h k r => exact ⟨_, _, rfl, h, k, r⟩
/-! len -/
def rLenA (K : PySem.W.Frag) : List V → Hp → VK → Prop := fun xs H Q => (∃ p ys, xs = [V.ref p] ∧ (SqL K H p ys ∨ SqT K H p ys) ∧ Q (.int ys.length) H) ∨ ((∃ z, xs = [V.str z] ∧ z.length ≤ sizeLine ∧ Q (.int z.length) H) ∨ ∃ q kvs, xs = [V.ref q] ∧ Rd H q (.dK kvs) ∧ Q (.int kvs.length) H)
theorem call_lenDR : CallR X (.builtin "len") (fun xs H Q => ∃ q kvs, xs = [V.ref q] ∧ Rd H q (.dK kvs) ∧ Q (.int kvs.length) H) := by
  intro pins s σ H xs us Q I rv ⟨q, kvs, ex, h, k⟩
  subst ex
  obtain ⟨u, rfl, ru⟩ := vals1 rv
  cases ru
  exact d_len I h fun t s' I' => ⟨.int _, H, I', ⟨_, rfl⟩, k⟩
theorem call_lenA : CallR X (.builtin "len") (rLenA X.K) := call_len_seq.or (call_len_str.or call_lenDR)
def lenD : List Dat → Option Dat
  | [.lst xs] => some (.int xs.length)
  | [.tup xs] => some (.int xs.length)
  | [.scr xs] => some (.int xs.length)
  | [.dct ks _] => some (.int ks.length)
  | [.str z] => @ite _ (z.length ≤ sizeLine) (Classical.propDecidable _) (some (.int z.length)) none
  | _ => none
theorem cd_len : ClD X cm (rLenA X.K) lenD := fun F H vs ds d Q e rs hg k => by
  unfold lenD at hg
  split at hg
  · cases hg
    obtain ⟨v, rfl, r⟩ := rs.one
    obtain ⟨a, ws, rfl, h, q⟩ := r.lst_inv
    exact .inl ⟨a, ws, rfl, .inl (.inl (same_rd e h)), by rw [q.length]; exact k _ F H (Ext.refl e) (.int _)⟩
  · cases hg
    obtain ⟨v, rfl, r⟩ := rs.one
    obtain ⟨a, ws, rfl, h, q⟩ := r.tup_inv
    exact .inl ⟨a, ws, rfl, .inr (same_sqT e h), by rw [q.length]; exact k _ F H (Ext.refl e) (.int _)⟩
  · cases hg
    obtain ⟨v, rfl, r⟩ := rs.one
    obtain ⟨a, ws, rfl, h, q⟩ := r.scr_inv
    exact .inl ⟨a, ws, rfl, .inl (e.seq h), by rw [q.length]; exact k _ F H (Ext.refl e) (.int _)⟩
  · cases hg
    obtain ⟨v, rfl, r⟩ := rs.one
    obtain ⟨a, kvs, rfl, h, q, _⟩ := r.dct_inv
    refine .inr (.inr ⟨a, kvs, rfl, same_rd e h, ?_⟩)
    rw [← q, List.length_map] at k
    exact k _ F H (Ext.refl e) (.int _)
  · obtain ⟨c, rfl⟩ := ite_some hg
    obtain ⟨v, rfl, r⟩ := rs.one
    exact .inr (.inl ⟨_, by rw [r.str_inv], c, k _ F H (Ext.refl e) (.int _)⟩)
  · cases hg
theorem e_len (hg : Gl X "len") (hm : X.mg "len" = none) (ha : PA X (e :: es) (ofA X.K cm fs)) (he : starEach (e :: es) X.env = (false, eval e X.env) :: starEach es X.env := by rfl) (hpl : (backTo pos (starEach es X.env)).any (·.1) = false := by rfl) :
    PE X (.Call (.Name "len" p) (e :: es) [] pos) (ofE X.K cm (app lenD fs)) := e_callB call_lenA cd_len hg hm PySem.boot_len ha (by decide) (by decide) he hpl
/-! min, max of two ints -/
def minD : List Dat → Option Dat
  | [.int i, .int j] => some (.int (if j < i then j else i))
  | _ => none
def maxD : List Dat → Option Dat
  | [.int i, .int j] => some (.int (if j > i then j else i))
  | _ => none
theorem cd_min : ClD X cm (fun xs H Q => ∃ i j, xs = [.int i, .int j] ∧ Q (.int (if j < i then j else i)) H) minD := fun F H vs ds d Q e rs hg k => by
  unfold minD at hg
  split at hg
  · cases hg
    obtain ⟨v, v', rfl, r, r'⟩ := rs.two
    exact ⟨_, _, by rw [r.int_inv, r'.int_inv], k _ F H (Ext.refl e) (.int _)⟩
  · cases hg
theorem cd_max : ClD X cm (fun xs H Q => ∃ i j, xs = [.int i, .int j] ∧ Q (.int (if j > i then j else i)) H) maxD := fun F H vs ds d Q e rs hg k => by
  unfold maxD at hg
  split at hg
  · cases hg
    obtain ⟨v, v', rfl, r, r'⟩ := rs.two
    exact ⟨_, _, by rw [r.int_inv, r'.int_inv], k _ F H (Ext.refl e) (.int _)⟩
  · cases hg
theorem e_min (hc : X.calm = true) (hg : Gl X "min") (hm : X.mg "min" = none) (ha : PA X (e :: es) (ofA X.K cm fs)) (he : starEach (e :: es) X.env = (false, eval e X.env) :: starEach es X.env := by rfl) (hpl : (backTo pos (starEach es X.env)).any (·.1) = false := by rfl) :
    PE X (.Call (.Name "min" p) (e :: es) [] pos) (ofE X.K cm (app minD fs)) := e_callB (call_min2 hc) cd_min hg hm (by decide +kernel) ha (by decide) (by decide) he hpl
theorem e_max (hc : X.calm = true) (hg : Gl X "max") (hm : X.mg "max" = none) (ha : PA X (e :: es) (ofA X.K cm fs)) (he : starEach (e :: es) X.env = (false, eval e X.env) :: starEach es X.env := by rfl) (hpl : (backTo pos (starEach es X.env)).any (·.1) = false := by rfl) :
    PE X (.Call (.Name "max" p) (e :: es) [] pos) (ofE X.K cm (app maxD fs)) := e_callB (call_max2 hc) cd_max hg hm (by decide +kernel) ha (by decide) (by decide) he hpl
/-! list(x) of a list, of a tuple; tuple(list); str(int); int(truth) -/
def rListA (K : PySem.W.Frag) : List V → Hp → VK → Prop := fun xs H Q => ∃ p ys, xs = [.ref p] ∧ (SqL K H p ys ∨ SqT K H p ys) ∧ ∀ l, H l = none → Q (.ref l) (upd H l (.lst ys))
def listD : List Dat → Option Dat
  | [.lst xs] => some (.lst xs)
  | [.scr xs] => some (.lst xs)
  | [.tup xs] => some (.lst xs)
  | _ => none
def listO : List Dat → Option SV
  | [.lst xs] => some (.ol (xs.map SV.fro))
  | [.tup xs] => some (.ol (xs.map SV.fro))
  | _ => none
theorem cd_list : ClD X cm (rListA X.K) listD := fun F H vs ds d Q e rs hg k => by
  unfold listD at hg
  split at hg
  · cases hg
    obtain ⟨v, rfl, r⟩ := rs.one
    obtain ⟨a, ws, rfl, h, q⟩ := r.lst_inv
    exact ⟨a, ws, rfl, .inl (.inl (same_rd e h)), new_lst e q k⟩
  · cases hg
    obtain ⟨v, rfl, r⟩ := rs.one
    obtain ⟨a, ws, rfl, h, q⟩ := r.scr_inv
    exact ⟨a, ws, rfl, .inl (e.seq h), new_lst e q k⟩
  · cases hg
    obtain ⟨v, rfl, r⟩ := rs.one
    obtain ⟨a, ws, rfl, h, q⟩ := r.tup_inv
    exact ⟨a, ws, rfl, .inr (same_sqT e h), new_lst e q k⟩
  · cases hg
theorem co_list : ClO X cm (rListA X.K) listO := fun F H vs ds d Q e rs hg k => by
  unfold listO at hg
  split at hg
  · cases hg
    obtain ⟨v, rfl, r⟩ := rs.one
    obtain ⟨a, ws, rfl, h, q⟩ := r.lst_inv
    exact ⟨a, ws, rfl, .inl (.inl (same_rd e h)), own_lst e q k⟩
  · cases hg
    obtain ⟨v, rfl, r⟩ := rs.one
    obtain ⟨a, ws, rfl, h, q⟩ := r.tup_inv
    exact ⟨a, ws, rfl, .inr (same_sqT e h), own_lst e q k⟩
  · cases hg
theorem e_list (hg : Gl X "list") (hm : X.mg "list" = none) (ha : PA X (e :: es) (ofA X.K cm fs)) (he : starEach (e :: es) X.env = (false, eval e X.env) :: starEach es X.env := by rfl) (hpl : (backTo pos (starEach es X.env)).any (·.1) = false := by rfl) :
    PE X (.Call (.Name "list" p) (e :: es) [] pos) (ofE X.K cm (app listD fs)) := e_callT call_list_of cd_list hg hm (by decide +kernel) ha (by decide) (by decide) he hpl
theorem o_list (hg : Gl X "list") (hm : X.mg "list" = none) (ha : PA X (e :: es) (ofA X.K cm fs)) (he : starEach (e :: es) X.env = (false, eval e X.env) :: starEach es X.env := by rfl) (hpl : (backTo pos (starEach es X.env)).any (·.1) = false := by rfl) :
    PE X (.Call (.Name "list" p) (e :: es) [] pos) (ofO X.K cm (appO listO fs)) := o_callT call_list_of co_list hg hm (by decide +kernel) ha (by decide) (by decide) he hpl
def tupleD : List Dat → Option Dat
  | [.lst xs] => some (.tup xs)
  | [.tup xs] => some (.tup xs)
  | _ => none
theorem cd_tuple : ClD X cm (fun xs H Q => ∃ p ys, xs = [.ref p] ∧ ((SqL X.K H p ys ∧ ∀ l, H l = none → Q (.ref l) (upd H l (.tup ys))) ∨ (SqT X.K H p ys ∧ Q (.ref p) H))) tupleD := fun F H vs ds d Q e rs hg k => by
  unfold tupleD at hg
  split at hg
  · cases hg
    obtain ⟨v, rfl, r⟩ := rs.one
    obtain ⟨a, ws, rfl, h, q⟩ := r.lst_inv
    exact ⟨a, ws, rfl, .inl ⟨.inl (same_rd e h), new_tup e q k⟩⟩
  · cases hg
    obtain ⟨v, rfl, r⟩ := rs.one
    obtain ⟨a, ws, rfl, h, q⟩ := r.tup_inv
    exact ⟨a, ws, rfl, .inr ⟨same_sqT e h, k _ F H (Ext.refl e) (.tup h q)⟩⟩
  · cases hg
theorem e_tuple (hg : Gl X "tuple") (hm : X.mg "tuple" = none) (ha : PA X (e :: es) (ofA X.K cm fs)) (he : starEach (e :: es) X.env = (false, eval e X.env) :: starEach es X.env := by rfl) (hpl : (backTo pos (starEach es X.env)).any (·.1) = false := by rfl) :
    PE X (.Call (.Name "tuple" p) (e :: es) [] pos) (ofE X.K cm (app tupleD fs)) := e_callT call_tuple_of cd_tuple hg hm (by decide +kernel) ha (by decide) (by decide) he hpl
def strD : List Dat → Option Dat
  | [.int i] => @ite _ (i.natAbs.log2 < 1920) (Classical.propDecidable _) (some (.str (toString i))) none
  | _ => none
theorem cd_str : ClD X cm (fun xs H Q => ∃ i, xs = [.int i] ∧ i.natAbs.log2 < 1920 ∧ Q (.str (toString i)) H) strD := fun F H vs ds d Q e rs hg k => by
  unfold strD at hg
  split at hg
  · obtain ⟨c, rfl⟩ := ite_some hg
    obtain ⟨v, rfl, r⟩ := rs.one
    exact ⟨_, by rw [r.int_inv], c, k _ F H (Ext.refl e) (.str _)⟩
  · cases hg
theorem e_strI (hg : Gl X "str") (hm : X.mg "str" = none) (ha : PA X (e :: es) (ofA X.K cm fs)) (he : starEach (e :: es) X.env = (false, eval e X.env) :: starEach es X.env := by rfl) (hpl : (backTo pos (starEach es X.env)).any (·.1) = false := by rfl) :
    PE X (.Call (.Name "str" p) (e :: es) [] pos) (ofE X.K cm (app strD fs)) := e_callT call_str_int cd_str hg hm (by decide +kernel) ha (by decide) (by decide) he hpl
def rIntA : List V → Hp → VK → Prop := fun xs H Q => ((∃ i, xs = [V.int i] ∧ Q (.int i) H) ∨ ∃ k, xs = [V.bl k] ∧ Q (.int (if k then 1 else 0)) H) ∨ ∃ a n, xs = [V.str a] ∧ PySem.intText? a = some n ∧ a.length ≤ 640 ∧ Q (.int n) H
theorem call_intA : CallR X (.type "int") rIntA := call_int1.or call_int_str
def intD : List Dat → Option Dat
  | [.int i] => some (.int i)
  | [.bl k] => some (.int (if k then 1 else 0))
  | [.str z] => @ite _ (z.length ≤ 640) (Classical.propDecidable _) ((PySem.intText? z).map Dat.int) none
  | _ => none
theorem cd_int : ClD X cm rIntA intD := fun F H vs ds d Q e rs hg k => by
  unfold intD at hg
  split at hg
  · cases hg
    obtain ⟨v, rfl, r⟩ := rs.one
    exact .inl (.inl ⟨_, by rw [r.int_inv], k _ F H (Ext.refl e) (.int _)⟩)
  · cases hg
    obtain ⟨v, rfl, r⟩ := rs.one
    exact .inl (.inr ⟨_, by rw [r.bl_inv], k _ F H (Ext.refl e) (.int _)⟩)
  · split at hg
    · rename_i c
      obtain ⟨n, e1, rfl⟩ := map_some' hg
      obtain ⟨v, rfl, r⟩ := rs.one
      exact .inr ⟨_, n, by rw [r.str_inv], e1, c, k _ F H (Ext.refl e) (.int _)⟩
    · cases hg
  · cases hg
theorem e_intC (hg : Gl X "int") (hm : X.mg "int" = none) (ha : PA X (e :: es) (ofA X.K cm fs)) (he : starEach (e :: es) X.env = (false, eval e X.env) :: starEach es X.env := by rfl) (hpl : (backTo pos (starEach es X.env)).any (·.1) = false := by rfl) :
    PE X (.Call (.Name "int" p) (e :: es) [] pos) (ofE X.K cm (app intD fs)) := e_callT call_intA cd_int hg hm (by decide +kernel) ha (by decide) (by decide) he hpl
end
end
end Pq

namespace Pq
open PySem PySem.Spec PyProof.Rows L2
noncomputable section
section
variable {X : Cx} {cm : CM} {a b e : Expr} {es : List Expr} {fa fb : Rho → Option Dat} {pos : Pos}

/-! ### a[i], a[i:j], a[::-1] -/
def ixD : Dat → Dat → Option Dat
  | .lst xs, .int i => atI xs i
  | .scr xs, .int i => atI xs i
  | .tup xs, .int i => atI xs i
  | .str z, .int i => @ite _ (z.length ≤ sizeLine) (Classical.propDecidable _) ((atI z.cps.toList i).map fun c => .str ⟨#[c]⟩) none
  | _, _ => none
theorem Rs.atI {K : PySem.W.Frag} {F : Hp} {vs : List V} {xs : List Dat} {i : Int} {x : Dat} (r : Rs K cm F vs xs) (h : L2.atI xs i = some x) : ∃ v, L2.atI vs i = some v ∧ R K cm F v x := by
  unfold L2.atI at h ⊢
  obtain ⟨j, e1, e2⟩ := bind_some h
  obtain ⟨v, h1, h2⟩ := r.get e2
  exact ⟨v, by rw [r.length, e1]; exact h1, h2⟩
theorem od_ix : OpD X cm (rIx X.K) ixD := fun F H x y a b d Q e r1 r2 hg k => by
  unfold ixD at hg
  split at hg
  · obtain ⟨p, vs, rfl, h, q⟩ := r1.lst_inv
    obtain ⟨v, h1, h2⟩ := q.atI hg
    exact .inl ⟨p, vs, _, v, rfl, r2.int_inv, .inl (same_rd e h), h1, k v F H (Ext.refl e) h2⟩
  · obtain ⟨p, vs, rfl, h, q⟩ := r1.scr_inv
    obtain ⟨v, h1, h2⟩ := q.atI hg
    exact .inl ⟨p, vs, _, v, rfl, r2.int_inv, e.seq h, h1, k v F H (Ext.refl e) h2⟩
  · obtain ⟨p, vs, rfl, h, q⟩ := r1.tup_inv
    obtain ⟨v, h1, h2⟩ := q.atI hg
    exact .inr (.inl ⟨p, vs, _, v, rfl, r2.int_inv, same_sqT e h, h1, k v F H (Ext.refl e) h2⟩)
  · split at hg
    · rename_i c
      obtain ⟨z, e1, rfl⟩ := map_some' hg
      exact .inr (.inr ⟨_, _, z, r1.str_inv, r2.int_inv, c, e1, k _ F H (Ext.refl e) (.str _)⟩)
    · cases hg
  · cases hg
theorem e_ix (ha : PE X a (ofE X.K cm fa)) (hb : PE X b (ofE X.K cm fb)) (hs : PlainIx b := by exact fun _ _ => rfl) : PE X (.Subscript a b pos) (ofE X.K cm (bin ixD fa fb)) := PE.imp (pe_ix ix_seq ha hb hs) (bin_of od_ix)
def ofP (K : PySem.W.Frag) (cm : CM) (f : Rho → Option (Option Int)) : TO := fun σ H Q => ∃ F ρ As d, Rel K cm F H σ ρ As ∧ f ρ = some d ∧ ∀ F' H', Ext F H F' H' → Q d H'
theorem PO.imp {e : Option Expr} {t t' : TO} (h : PO X e t) (i : ∀ σ H Q, t' σ H Q → t σ H Q) : PO X e t' := ⟨fun pins s σ H Q I q => h.run pins s σ H Q I (i σ H Q q)⟩
def noP : Rho → Option (Option Int) := fun _ => some none
def prt (f : Rho → Option Dat) : Rho → Option (Option Int) := fun ρ => (f ρ).bind fun
  | .int i => some (some i)
  | _ => none
theorem p_no : PO X none (ofP X.K cm noP) := PO.imp po_none fun σ H Q ⟨F, ρ, As, d, rel, hf, k⟩ => by
  cases hf
  exact k F H (Ext.refl rel.fh)
theorem p_e (h : PE X e (ofE X.K cm fa)) : PO X (some e) (ofP X.K cm (prt fa)) := PO.imp (po_some h) fun σ H Q ⟨F, ρ, As, d, rel, hf, k⟩ => by
  obtain ⟨x, e1, hf⟩ := bind_some hf
  cases x with
  | int i =>
    cases hf
    exact ⟨F, ρ, As, .int i, rel, e1, fun v F1 H1 x1 r1 => ⟨i, r1.int_inv, k F1 H1 x1⟩⟩
  | _ => cases hf
def cut (xs : List Dat) (lo hi : Option Int) : List Dat := (xs.drop (HT.sIx xs.length 0 lo)).take (HT.sIx xs.length xs.length hi - HT.sIx xs.length 0 lo)
def slD (d : Dat) (lo hi : Option Int) : Option Dat := match d with
  | .lst xs => some (.lst (cut xs lo hi))
  | .scr xs => some (.lst (cut xs lo hi))
  | .tup xs => @ite _ (¬ (HT.sIx xs.length 0 lo = 0 ∧ HT.sIx xs.length xs.length hi = xs.length)) (Classical.propDecidable _) (some (.tup (cut xs lo hi))) none
  | .str z => @ite _ (z.length ≤ sizeLine) (Classical.propDecidable _) (some (.str (cutS z lo hi))) none
  | _ => none
def slS (f : Rho → Option Dat) (l h : Rho → Option (Option Int)) : Rho → Option Dat := fun ρ => (f ρ).bind fun x => (l ρ).bind fun lo => (h ρ).bind fun hi => slD x lo hi
theorem Rs.cut {K : PySem.W.Frag} {F : Hp} {vs : List V} {xs : List Dat} (r : Rs K cm F vs xs) (lo hi : Option Int) : Rs K cm F (cutV vs lo hi) (Pq.cut xs lo hi) := by
  unfold cutV Pq.cut
  rw [r.length]
  exact (r.drop _).take _
def rSlA (K : PySem.W.Frag) : V → Option Int → Option Int → Hp → VK → Prop := fun x lo hi H Q => rSlL K x lo hi H Q ∨ (rSlT K x lo hi H Q ∨ rSlS x lo hi H Q)
theorem sl_A : SlR X (rSlA X.K) := sl_list.or (sl_tup.or sl_str)
theorem e_sl {lo hi : Option Expr} {fl fh : Rho → Option (Option Int)} {p2 : Pos} (ha : PE X a (ofE X.K cm fa)) (hl : PO X lo (ofP X.K cm fl)) (hh : PO X hi (ofP X.K cm fh)) : PE X (.Subscript a (.Slice lo hi none p2) pos) (ofE X.K cm (slS fa fl fh)) := PE.imp (pe_slice sl_A ha hl hh) fun σ H Q ⟨F, ρ, As, d, rel, hf, k⟩ => by
  obtain ⟨x, e1, hf⟩ := bind_some hf
  obtain ⟨l, e2, hf⟩ := bind_some hf
  obtain ⟨h, e3, hf⟩ := bind_some hf
  refine ⟨F, ρ, As, x, rel, e1, fun v F1 H1 x1 r1 => ⟨F1, ρ, As, l, rel.ext x1, e2, fun F2 H2 x2 => ⟨F2, ρ, As, h, (rel.ext x1).ext x2, e3, fun F3 H3 x3 => ?_⟩⟩⟩
  have x123 := x1.trans (x2.trans x3)
  unfold slD at hf
  split at hf
  · cases hf
    obtain ⟨p, vs, rfl, g, q⟩ := r1.lst_inv
    exact .inl ⟨p, vs, rfl, .inl (same_rd (x2.f.trans (x3.f.trans x3.fh)) g), new_lst x3.fh ((q.cut l h).mono (x2.f.trans x3.f)) fun v F4 H4 x4 r4 => k v F4 H4 (x123.trans x4) r4⟩
  · cases hf
    obtain ⟨p, vs, rfl, g, q⟩ := r1.scr_inv
    exact .inl ⟨p, vs, rfl, (x2.f.trans (x3.f.trans x3.fh)).seq g, new_lst x3.fh ((q.cut l h).mono (x2.f.trans x3.f)) fun v F4 H4 x4 r4 => k v F4 H4 (x123.trans x4) r4⟩
  · obtain ⟨c, rfl⟩ := ite_some hf
    obtain ⟨p, vs, rfl, g, q⟩ := r1.tup_inv
    exact .inr (.inl ⟨p, vs, rfl, same_sqT (x2.f.trans (x3.f.trans x3.fh)) g, by rw [q.length]; exact c, new_tup x3.fh ((q.cut l h).mono (x2.f.trans x3.f)) fun v F4 H4 x4 r4 => k v F4 H4 (x123.trans x4) r4⟩)
  · obtain ⟨c, rfl⟩ := ite_some hf
    exact .inr (.inr ⟨_, r1.str_inv, c, k _ F3 H3 x123 (.str _)⟩)
  · cases hf
/-- .. a new list of one's own -/
def slO (f : Rho → Option Dat) (l h : Rho → Option (Option Int)) : Rho → Option SV := fun ρ => (f ρ).bind fun x => (l ρ).bind fun lo => (h ρ).bind fun hi => match x with
  | .lst xs => some (.ol ((cut xs lo hi).map SV.fro))
  | _ => none
theorem o_sl {lo hi : Option Expr} {fl fh : Rho → Option (Option Int)} {p2 : Pos} (ha : PE X a (ofE X.K cm fa)) (hl : PO X lo (ofP X.K cm fl)) (hh : PO X hi (ofP X.K cm fh)) : PE X (.Subscript a (.Slice lo hi none p2) pos) (ofO X.K cm (slO fa fl fh)) := PE.imp (pe_slice sl_list ha hl hh) fun σ H Q ⟨F, ρ, As, d, rel, hf, k⟩ => by
  obtain ⟨x, e1, hf⟩ := bind_some hf
  obtain ⟨l, e2, hf⟩ := bind_some hf
  obtain ⟨h, e3, hf⟩ := bind_some hf
  refine ⟨F, ρ, As, x, rel, e1, fun v F1 H1 x1 r1 => ⟨F1, ρ, As, l, rel.ext x1, e2, fun F2 H2 x2 => ⟨F2, ρ, As, h, (rel.ext x1).ext x2, e3, fun F3 H3 x3 => ?_⟩⟩⟩
  have x123 := x1.trans (x2.trans x3)
  split at hf
  · cases hf
    obtain ⟨p, vs, rfl, g, q⟩ := r1.lst_inv
    exact ⟨p, vs, rfl, .inl (same_rd (x2.f.trans (x3.f.trans x3.fh)) g), own_lst x3.fh ((q.cut l h).mono (x2.f.trans x3.f)) fun v F4 H4 A x4 r4 nd n => k v F4 H4 A (x123.trans x4) r4 nd fun a z => x123.h.free (n a z)⟩
  · cases hf
def revD : Dat → Option Dat
  | .lst xs => some (.lst xs.reverse)
  | _ => none
theorem e_rev {k : Nat} {p1 p2 p3 : Pos} (ha : PE X a (ofE X.K cm fa)) : PE X (.Subscript a (.Slice none none (some (.UnaryOp .USub (.Constant (.int 1) k p1) p2)) p3) pos) (ofE X.K cm (un revD fa)) := PE.imp (pe_revL ha) fun σ H Q ⟨F, ρ, As, d, rel, hf, k⟩ => by
  obtain ⟨x, e1, hf⟩ := bind_some hf
  refine ⟨F, ρ, As, x, rel, e1, fun v F1 H1 x1 r1 => ?_⟩
  unfold revD at hf
  split at hf
  · cases hf
    obtain ⟨p, vs, rfl, g, q⟩ := r1.lst_inv
    exact ⟨p, vs, rfl, .inl (same_rd x1.fh g), new_lst x1.fh q.reverse fun v F4 H4 x4 r4 => k v F4 H4 (x1.trans x4) r4⟩
  · cases hf

/-! ### in, not in -/
def flat : Dat → Bool
  | .non => true | .bl _ => true | .int _ => true | .str _ => true
  | _ => false
theorem flat_V {K : PySem.W.Frag} {F : Hp} {v : V} {d : Dat} (h : R K cm F v d) (f : flat d = true) : flatV v = true := by
  cases h <;> first | rfl | cases f
theorem flats_V {K : PySem.W.Frag} {F : Hp} : ∀ {vs : List V} {xs : List Dat}, Rs K cm F vs xs → xs.all flat = true → vs.all flatV = true
  | _, _, .nil, _ => rfl
  | _, _, .cons r t, h => by
    rw [List.all_cons, Bool.and_eq_true] at h ⊢
    exact ⟨flat_V r h.1, flats_V t h.2⟩
theorem eqV_eqb {K : PySem.W.Frag} {F : Hp} {v w : V} {d c : Dat} (h : R K cm F v d) (h' : R K cm F w c) (f : flat d = true) (f' : flat c = true) : eqV v w = eqb d c := by
  cases h <;> first | (cases f; done) | (cases h' <;> first | (cases f'; done) | simp [eqV, eqb])
theorem inV_any {K : PySem.W.Frag} {F : Hp} {v : V} {d : Dat} (h : R K cm F v d) (f : flat d = true) : ∀ {vs : List V} {xs : List Dat}, Rs K cm F vs xs → xs.all flat = true → inV v vs = xs.any fun c => eqb c d
  | _, _, .nil, _ => rfl
  | _, _, .cons r t, g => by
    rw [List.all_cons, Bool.and_eq_true] at g
    have ih := inV_any h f t g.2
    unfold inV at ih ⊢
    rw [List.any_cons, List.any_cons, ih, eqV_eqb r h g.1 f]
def isK : Dat → Option Key
  | .int i => some (.inl i)
  | .str z => some (.inr z)
  | _ => none
theorem isK_V {K : PySem.W.Frag} {F : Hp} {v : V} {d : Dat} {k : Key} (h : R K cm F v d) (f : isK d = some k) : v = kV k := by
  cases h <;> cases f <;> rfl
def rInA (X : Cx) (neg : Bool) : R2 := fun x y H Q => rIn X.K neg x y H Q ∨ ((∃ i j, x = V.str i ∧ y = V.str j ∧ Q (.bl (if neg then !(!(Builtin.Str.occurrences j i 0 j.length 1).isEmpty) else !(Builtin.Str.occurrences j i 0 j.length 1).isEmpty)) H) ∨ ∃ q o, y = .ref q ∧ DGet H q x o ∧ Q (.bl (if neg then !o.isSome else o.isSome)) H)
theorem op_inDk (hu : X.A.units + 1 < cLine) : OpR X (compareOp .In) (fun x y H Q => ∃ q o, y = .ref q ∧ DGet H q x o ∧ Q (.bl o.isSome) H) := by
  intro pins s σ H x y v u Q I rx ry ⟨q, o, ey, g, k⟩
  subst ey
  cases ry
  exact d_in hu I g rx fun s' I' => ⟨.bl _, H, I', rfl, k⟩
theorem op_notInDk (hu : X.A.units + 1 < cLine) : OpR X (compareOp .NotIn) (fun x y H Q => ∃ q o, y = .ref q ∧ DGet H q x o ∧ Q (.bl (!o.isSome)) H) := by
  intro pins s σ H x y v u Q I rx ry ⟨q, o, ey, g, k⟩
  subst ey
  cases ry
  exact d_notIn hu I g rx fun s' I' => ⟨.bl _, H, I', rfl, k⟩
theorem op_inA (hu : X.A.units + 1 < cLine) : OpR X (compareOp .In) (rInA X false) := op_in_seq.or (op_in_str.or (op_inDk hu))
theorem op_notInA (hu : X.A.units + 1 < cLine) : OpR X (compareOp .NotIn) (rInA X true) := op_notIn_seq.or (op_notIn_str.or (op_notInDk hu))
def inB : Dat → Dat → Option Bool
  | d, .lst xs => if flat d && xs.all flat then some (xs.any fun c => eqb c d) else none
  | d, .tup xs => if flat d && xs.all flat then some (xs.any fun c => eqb c d) else none
  | .str i, .str j => some (!(Builtin.Str.occurrences j i 0 j.length 1).isEmpty)
  | d, .dct ks _ => (isK d).map fun k => ks.any fun j => decide (j = k)
  | _, _ => none
def inD (x y : Dat) : Option Dat := (inB x y).map Dat.bl
def ninD (x y : Dat) : Option Dat := (inB x y).map fun k => .bl (!k)
theorem valV_some (k : Key) (kvs : List (Key × V)) : (valV kvs k).isSome = (kvs.map (·.1)).any fun j => decide (j = k) := by
  rw [← valV_any, List.any_map]
  rfl
theorem in_of (neg : Bool) (F H : Hp) (x y : V) (a b : Dat) (k : Bool) (Q : VK) (e : Same F H) (r1 : R X.K cm F x a) (r2 : R X.K cm F y b) (hg : inB a b = some k) (q : Q (.bl (if neg then !k else k)) H) : rInA X neg x y H Q := by
  unfold inB at hg
  split at hg
  · obtain ⟨c, rfl⟩ := ite_some hg
    rw [Bool.and_eq_true] at c
    obtain ⟨p, vs, rfl, g, z⟩ := r2.lst_inv
    refine .inl ⟨p, vs, rfl, .inl (.inl (same_rd e g)), flat_V r1 c.1, flats_V z c.2, ?_⟩
    rw [inV_any r1 c.1 z c.2]
    exact q
  · obtain ⟨c, rfl⟩ := ite_some hg
    rw [Bool.and_eq_true] at c
    obtain ⟨p, vs, rfl, g, z⟩ := r2.tup_inv
    refine .inl ⟨p, vs, rfl, .inr (same_sqT e g), flat_V r1 c.1, flats_V z c.2, ?_⟩
    rw [inV_any r1 c.1 z c.2]
    exact q
  · cases hg
    exact .inr (.inl ⟨_, _, r1.str_inv, r2.str_inv, q⟩)
  · obtain ⟨key, e1, rfl⟩ := map_some' hg
    obtain ⟨p, kvs, rfl, g, ek, z⟩ := r2.dct_inv
    have ev := isK_V r1 e1
    subst ev
    refine .inr (.inr ⟨p, valV kvs key, rfl, .inl ⟨kvs, key, same_rd e g, rfl, rfl⟩, ?_⟩)
    rw [valV_some, ek]
    exact q
  · cases hg
theorem od_in : OpD X cm (rInA X false) inD := fun F H x y a b d Q e r1 r2 hg k => by
  obtain ⟨c, e1, rfl⟩ := map_some' hg
  exact in_of false F H x y a b c Q e r1 r2 e1 (k _ F H (Ext.refl e) (.bl _))
theorem od_nin : OpD X cm (rInA X true) ninD := fun F H x y a b d Q e r1 r2 hg k => by
  obtain ⟨c, e1, rfl⟩ := map_some' hg
  exact in_of true F H x y a b c Q e r1 r2 e1 (k _ F H (Ext.refl e) (.bl _))
theorem e_in (hu : X.A.units + 1 < cLine) (ha : PE X a (ofE X.K cm fa)) (hb : PE X b (ofE X.K cm fb)) (hm : behindInMarks .In b = false := by rfl) : PE X (.Compare a [.In] [b] pos) (ofE X.K cm (bin inD fa fb)) := e_cmp (op_inA hu) od_in ha hb hm
theorem e_nin (hu : X.A.units + 1 < cLine) (ha : PE X a (ofE X.K cm fa)) (hb : PE X b (ofE X.K cm fb)) (hm : behindInMarks .NotIn b = false := by rfl) : PE X (.Compare a [.NotIn] [b] pos) (ofE X.K cm (bin ninD fa fb)) := e_cmp (op_notInA hu) od_nin ha hb hm
theorem t_in (hu : X.A.units + 1 < cLine) (ha : PE X a (ofE X.K cm fa)) (hb : PE X b (ofE X.K cm fb)) (hm : behindInMarks .In b = false := by rfl) : PT X (.Compare a [.In] [b] pos) (ofT X.K cm (tst (bin inD fa fb))) := t_cmp (op_inA hu) od_in ha hb hm
theorem t_nin (hu : X.A.units + 1 < cLine) (ha : PE X a (ofE X.K cm fa)) (hb : PE X b (ofE X.K cm fb)) (hm : behindInMarks .NotIn b = false := by rfl) : PT X (.Compare a [.NotIn] [b] pos) (ofT X.K cm (tst (bin ninD fa fb))) := t_cmp (op_notInA hu) od_nin ha hb hm

/-! ### isinstance(x, T), T a built-in type -/
def tyN : Dat → Option String
  | .non => some "NoneType" | .bl _ => some "bool" | .int _ => some "int" | .str _ => some "str" | .tup _ => some "tuple" | .lst _ => some "list" | .dct _ _ => some "dict"
  | .obj _ _ _ => none
  | .scr _ => none
  | .cel _ => none
def isiD (T : String) (d : Dat) : Option Dat := match d with
  | .non => (kitB "NoneType" T).map Dat.bl
  | .bl _ => (kitB "bool" T).map Dat.bl
  | .int _ => (kitB "int" T).map Dat.bl
  | .str _ => (kitB "str" T).map Dat.bl
  | .tup _ => (kitB "tuple" T).map Dat.bl
  | .lst _ => (kitB "list" T).map Dat.bl
  | .dct _ _ => (kitB "dict" T).map Dat.bl
  | .obj _ _ _ => none
  | .scr _ => none
  | .cel _ => none
theorem tyx_dat {K : PySem.W.Frag} {F H : Hp} {v : V} {d : Dat} {n : String} (e : Same F H) (h : R K cm F v d) (t : tyN d = some n) : TyX K H v (.type n) := by
  cases h with
  | non => cases t; exact .base .non
  | bl b => cases t; exact .base (.bl b)
  | int b => cases t; exact .base (.int b)
  | str b => cases t; exact .base (.str b)
  | lst q r =>
    cases t
    rcases same_rd e q with q | ⟨o, q⟩
    · exact .base (.lst q)
    · exact .base (.frz q)
  | tup q r =>
    cases t
    rcases same_sqT e q with (q | ⟨o, q⟩) | ⟨o, its, k, q, c, _⟩
    · exact .base (.tup q)
    · exact .fTuple q
    · exact .kTuple q c
  | dct q k r =>
    cases t
    rcases same_rd e q with q | ⟨o, q⟩
    · exact .base (.dK q)
    · exact .fDict q
  | obj q k r => cases t
  | scr q r => cases t
  | cel q => cases t
theorem isi_ty {T : String} {d r : Dat} (h : isiD T d = some r) : ∃ n b, tyN d = some n ∧ kitB n T = some b ∧ r = .bl b := by
  unfold isiD at h
  cases d with
  | obj c fs xs => cases h
  | scr xs => cases h
  | cel k => cases h
  | _ =>
    obtain ⟨b, e1, rfl⟩ := map_some' h
    exact ⟨_, b, rfl, e1, rfl⟩
theorem e_isi {T : String} {x : Str} {p p' : Pos} (hg : Gl X "isinstance") (hm : X.mg "isinstance" = none) (hg2 : Gl X x) (hm2 : X.mg x = none) (hv2 : bootBuiltins x = some (.type T)) (ha : PE X a (ofE X.K cm fa)) (hn : x ≠ "__name__" := by decide) (hdb : (x == ("__debug__" : Str)) = false := by decide)
    (he : starEach (a :: [.Name x p']) X.env = (false, eval a X.env) :: starEach [.Name x p'] X.env := by rfl) (he2 : starEach [.Name x p'] X.env = (false, eval (.Name x p') X.env) :: starEach [] X.env := by rfl) (hpl : (backTo pos (starEach [.Name x p'] X.env)).any (·.1) = false := by rfl) :
    PE X (.Call (.Name "isinstance" p) [a, .Name x p'] [] pos) (ofE X.K cm (un (isiD T) fa)) :=
  PE.imp (pe_callB call_isi hg hm (by decide +kernel) (pa_cons ha (pa_cons (pe_bltn (v := .ty T) hg2 hm2 hv2 rfl hn hdb) pa_nil he2) he) (by decide) (by decide) he hpl) fun σ H Q ⟨F, ρ, As, d, rel, hf, k⟩ => by
    obtain ⟨y, e1, hf⟩ := bind_some hf
    obtain ⟨n, c, h1, h2, rfl⟩ := isi_ty hf
    exact ⟨F, ρ, As, y, rel, e1, fun v F1 H1 x1 r1 => ⟨v, .ty T, .type n, .type T, c, rfl, .ty T, tyx_dat x1.fh r1 h1, kit_ty h2, k _ F1 H1 x1 (.bl _)⟩⟩
end
end
end Pq

namespace Pq
open PySem PySem.Spec PyProof.Rows L2
noncomputable section
section
variable {X : Cx} {cm : CM} {a b e : Expr} {es : List Expr} {fa fb : Rho → Option Dat} {pos : Pos}

/-! ### calls of defs -/
def callS (g : List Dat → Option Out) (f : Rho → Option (List Dat)) : Rho → Option SV := fun ρ => (f ρ).bind fun ds => (g ds).bind fun
  | .ok sv => some sv
  | .exc _ _ _ => none
theorem spX_of {K : PySem.W.Frag} {F H : Hp} {vs : List V} {ds : List Dat} {g : List Dat → Option Out} {sv : SV} {Q : VK} {E : XK} (e : Same F H) (cl : Cells K cm F H) (r : Rs K cm F vs ds) (h : (g ds).bind (fun | .ok sv => some sv | .exc _ _ _ => none) = some sv)
    (k : ∀ v F' H' A, Ext F H F' H' → RO K cm F' H' v sv A → A.Nodup → (∀ a ∈ A, H a = none) → Q v H') : spX K cm g vs H Q E := by
  obtain ⟨o, e1, h⟩ := bind_some h
  cases o with
  | ok sv' =>
    cases h
    exact ⟨F, ds, _, e, cl, r, e1, k⟩
  | exc n fs xs => cases h
theorem call_of {g : List Dat → Option Out} {fs : Rho → Option (List Dat)} {E : XK} : ∀ σ H Q, ofO X.K cm (callS g fs) σ H Q → tCall (spX X.K cm g) [] E (ofA X.K cm fs) σ H Q := fun σ H Q ⟨F, ρ, As, sv, rel, hf, k⟩ => by
  obtain ⟨ds, e1, hf⟩ := bind_some hf
  refine ⟨F, ρ, As, ds, rel, e1, fun vs F1 H1 x1 r1 => ?_⟩
  show spX X.K cm g (vs ++ []) H1 Q E
  rw [List.append_nil]
  exact spX_of x1.fh (rel.cel.ext x1) r1 hf fun v F2 H2 A x2 r2 nd n => k v F2 H2 A (x1.trans x2) r2 nd fun a h => x1.h.free (n a h)
variable {k : Nat} {f C : Addr} {fd : FuncData} {ps : List Str} {g : List Dat → Option Out} {x m : Str} {p apos : Pos} {fs : Rho → Option (List Dat)}
theorem o_call (G : FnOk X.prog X.w X.K X.mg X.base (L2.CX X.prog X.w) k f fd ps (spX X.K cm g)) (hr : Room k X.A) (hg : Gl X x) (hm : X.mg x = some (.ref f)) (hk : PySem.W.keepIn X.K (.ref f) = true) (hb : Binds X.K fd ps []) (ha : PA X (e :: es) (ofA X.K cm fs))
    (hdb : (x == ("__debug__" : Str)) = false := by decide) (he : starEach (e :: es) X.env = (false, eval e X.env) :: starEach es X.env := by rfl) (hpl : (backTo pos (starEach es X.env)).any (·.1) = false := by rfl) : PE X (.Call (.Name x p) (e :: es) [] pos) (ofO X.K cm (callS g fs)) :=
  PE.imp (pe_call G hr hg hm hk hb .nil passL ha hdb he hpl) call_of
theorem o_call0 (G : FnOk X.prog X.w X.K X.mg X.base (L2.CX X.prog X.w) k f fd ps (spX X.K cm g)) (hr : Room k X.A) (hg : Gl X x) (hm : X.mg x = some (.ref f)) (hk : PySem.W.keepIn X.K (.ref f) = true) (hb : Binds X.K fd ps [])
    (hdb : (x == ("__debug__" : Str)) = false := by decide) : PE X (.Call (.Name x p) [] [] pos) (ofO X.K cm (callS g nilA)) :=
  PE.imp (pe_call0 G hr hg hm hk hb .nil passL hdb) fun σ H Q ⟨F, ρ, As, sv, rel, hf, q⟩ => by
    obtain ⟨ds, e1, hf⟩ := bind_some hf
    cases e1
    exact spX_of rel.fh rel.cel .nil hf q

/-! ### what is walked -/
structure ItfS (K : PySem.W.Frag) (cm : CM) (J : It) (F : Hp) (ds : List Dat) : Prop where
  stop : ∀ i F' H, Same F F' → Same F' H → ds.length ≤ i → J.stop i H
  go : ∀ i F' H, Same F F' → Same F' H → i < ds.length → J.go i H
  yld : ∀ i F' H x H', Same F F' → Same F' H → i < ds.length → J.yld i H x H' → ∃ F'' d, Ext F' H F'' H' ∧ ds[i]? = some d ∧ R K cm F'' x d
def ofIS (K : PySem.W.Frag) (cm : CM) (f : Rho → Option (List Dat)) : TI := fun σ H Rr => ∃ F ρ As ds, Rel K cm F H σ ρ As ∧ f ρ = some ds ∧ ∀ F' H' J, Ext F H F' H' → ItfS K cm J F' ds → Rr J H'
structure Itf (K : PySem.W.Frag) (cm : CM) (J : It) (F : Hp) (ds : List Dat) : Prop where
  stop : ∀ i F' H, Same F F' → Same F' H → Cells K cm F' H → ds.length ≤ i → J.stop i H
  go : ∀ i F' H, Same F F' → Same F' H → Cells K cm F' H → i < ds.length → J.go i H
  yld : ∀ i F' H x H', Same F F' → Same F' H → Cells K cm F' H → i < ds.length → J.yld i H x H' → ∃ F'' d, Ext F' H F'' H' ∧ ds[i]? = some d ∧ R K cm F'' x d
def ofI (K : PySem.W.Frag) (cm : CM) (f : Rho → Option (List Dat)) : TI := fun σ H Rr => ∃ F ρ As ds, Rel K cm F H σ ρ As ∧ f ρ = some ds ∧ ∀ F' H' J, Ext F H F' H' → Itf K cm J F' ds → Rr J H'
theorem ItfS.weak {K : PySem.W.Frag} {cm : CM} {J : It} {F : Hp} {ds : List Dat} (h : ItfS K cm J F ds) : Itf K cm J F ds where
  stop := fun i F' H e1 e2 _ => h.stop i F' H e1 e2
  go := fun i F' H e1 e2 _ => h.go i F' H e1 e2
  yld := fun i F' H x H' e1 e2 _ => h.yld i F' H x H' e1 e2
theorem PI.imp {tg it : Expr} {t t' : TI} (h : PI X tg it t) (i : ∀ σ H Q, t' σ H Q → t σ H Q) : PI X tg it t' := ⟨fun pins s σ H Q I q => h.run pins s σ H Q I (i σ H Q q)⟩
theorem iw {X : Cx} {cm : CM} {tg it : Expr} {f : Rho → Option (List Dat)} (h : PI X tg it (ofIS X.K cm f)) : PI X tg it (ofI X.K cm f) := PI.imp h fun σ H Q ⟨F, ρ, As, ds, rel, hf, q⟩ => ⟨F, ρ, As, ds, rel, hf, fun F' H' J x hJ => q F' H' J x hJ.weak⟩
theorem sqL_inj' {K : PySem.W.Frag} {H : Hp} {a : Addr} {vs ws : List V} (h : Rd H a (.lst vs)) (h' : Rd H a (.lst ws)) : vs = ws := by
  rcases h with h | ⟨o, h⟩ <;> rcases h' with h' | ⟨o', h'⟩ <;> rw [h] at h' <;> cases h' <;> rfl
theorem itf_list {K : PySem.W.Frag} {F : Hp} {a : Addr} {vs : List V} {ds : List Dat} (h : SqL K F a vs) (r : Rs K cm F vs ds) : ItfS K cm (Itl K a) F ds where
  stop := fun i F' H e1 e2 hi => ⟨vs, (e1.trans e2).seq h, by rw [r.length]; exact hi⟩
  go := fun i F' H e1 e2 hi => by
    obtain ⟨v, h1, _⟩ := r.get (List.getElem?_eq_getElem hi)
    exact ⟨vs, v, (e1.trans e2).seq h, h1⟩
  yld := fun i F' H x H' e1 e2 hi ⟨eH, hy⟩ => by
    subst eH
    obtain ⟨v, h1, h2⟩ := r.get (List.getElem?_eq_getElem hi)
    have := hy vs ((e1.trans e2).seq h)
    rw [h1] at this
    cases this
    exact ⟨F', _, Ext.refl e2, List.getElem?_eq_getElem hi, h2.mono e1⟩
theorem itf_tup {K : PySem.W.Frag} {F : Hp} {a : Addr} {vs : List V} {ds : List Dat} (h : SqT K F a vs) (r : Rs K cm F vs ds) : ItfS K cm (Itt K a) F ds where
  stop := fun i F' H e1 e2 hi => ⟨vs, same_sqT (e1.trans e2) h, by rw [r.length]; exact hi⟩
  go := fun i F' H e1 e2 hi => by
    obtain ⟨v, h1, _⟩ := r.get (List.getElem?_eq_getElem hi)
    exact ⟨vs, v, same_sqT (e1.trans e2) h, h1⟩
  yld := fun i F' H x H' e1 e2 hi ⟨eH, hy⟩ => by
    subst eH
    obtain ⟨v, h1, h2⟩ := r.get (List.getElem?_eq_getElem hi)
    have := hy vs (same_sqT (e1.trans e2) h)
    rw [h1] at this
    cases this
    exact ⟨F', _, Ext.refl e2, List.getElem?_eq_getElem hi, h2.mono e1⟩
def rng (lo : Int) (n : Nat) : List Dat := (List.range n).map fun (i : Nat) => Dat.int (lo + (i : Int))
theorem rng_len (lo : Int) (n : Nat) : (rng lo n).length = n := by unfold rng; rw [List.length_map, List.length_range]
theorem itf_rng {K : PySem.W.Frag} {F : Hp} {lo : Int} {n : Nat} : ItfS K cm (Itr lo n) F (rng lo n) where
  stop := fun i F' H e1 e2 hi => by rw [rng_len] at hi; exact hi
  go := fun i F' H e1 e2 hi => by rw [rng_len] at hi; exact hi
  yld := fun i F' H x H' e1 e2 hi ⟨eH, ex⟩ => by
    subst eH ex
    rw [rng_len] at hi
    refine ⟨F', _, Ext.refl e2, ?_, .int _⟩
    unfold rng
    rw [List.getElem?_map, List.getElem?_range hi]
    rfl
def itL (f : Rho → Option Dat) : Rho → Option (List Dat) := fun ρ => (f ρ).bind fun
  | .lst xs => some xs
  | .scr xs => some xs
  | _ => none
def itT (f : Rho → Option Dat) : Rho → Option (List Dat) := fun ρ => (f ρ).bind fun
  | .tup xs => some xs
  | _ => none
variable {tg : Expr}
theorem i_list (ha : PE X a (ofE X.K cm fa)) : PI X tg a (ofIS X.K cm (itL fa)) := PI.imp (pi_list ha) fun σ H Q ⟨F, ρ, As, ds, rel, hf, q⟩ => by
  obtain ⟨d, e1, hf⟩ := bind_some hf
  cases d with
  | lst xs =>
    cases hf
    refine ⟨F, ρ, As, _, rel, e1, fun v F1 H1 x1 r1 => ?_⟩
    obtain ⟨p, vs, rfl, h, r⟩ := r1.lst_inv
    exact ⟨p, rfl, ⟨vs, .inl (same_rd x1.fh h)⟩, q F1 H1 _ x1 (itf_list (.inl h) r)⟩
  | scr xs =>
    cases hf
    refine ⟨F, ρ, As, _, rel, e1, fun v F1 H1 x1 r1 => ?_⟩
    obtain ⟨p, vs, rfl, h, r⟩ := r1.scr_inv
    exact ⟨p, rfl, ⟨vs, x1.fh.seq h⟩, q F1 H1 _ x1 (itf_list h r)⟩
  | _ => cases hf
theorem i_tup (ha : PE X a (ofE X.K cm fa)) : PI X tg a (ofIS X.K cm (itT fa)) := PI.imp (pi_tup ha) fun σ H Q ⟨F, ρ, As, ds, rel, hf, q⟩ => by
  obtain ⟨d, e1, hf⟩ := bind_some hf
  cases d with
  | tup xs =>
    cases hf
    refine ⟨F, ρ, As, _, rel, e1, fun v F1 H1 x1 r1 => ?_⟩
    obtain ⟨p, vs, rfl, h, r⟩ := r1.tup_inv
    exact ⟨p, rfl, ⟨vs, same_sqT x1.fh h⟩, q F1 H1 _ x1 (itf_tup h r)⟩
  | _ => cases hf
def itR1 (f : Rho → Option (List Dat)) : Rho → Option (List Dat) := fun ρ => (f ρ).bind fun
  | [.int j] => @ite _ (-(2 ^ 62) ≤ j ∧ j < 2 ^ 62) (Classical.propDecidable _) (some (rng 0 j.toNat)) none
  | _ => none
def itR2 (f : Rho → Option (List Dat)) : Rho → Option (List Dat) := fun ρ => (f ρ).bind fun
  | [.int i, .int j] => @ite _ (-(2 ^ 62) ≤ i ∧ i < 2 ^ 62 ∧ -(2 ^ 62) ≤ j ∧ j < 2 ^ 62) (Classical.propDecidable _) (some (rng i (j - i).toNat)) none
  | _ => none
theorem i_range1 (hg : Gl X "range") (hm : X.mg "range" = none) (ha : PA X [a] (ofA X.K cm fs)) (hs : starEach [a] X.env = [(false, eval a X.env)] := by rfl) : PI X tg (.Call (.Name "range" p) [a] [] pos) (ofIS X.K cm (itR1 fs)) := PI.imp (pi_range1 hg hm ha hs) fun σ H Q ⟨F, ρ, As, ds, rel, hf, q⟩ => by
  obtain ⟨ns, e1, hf⟩ := bind_some hf
  split at hf
  · obtain ⟨c, rfl⟩ := ite_some hf
    refine ⟨F, ρ, As, _, rel, e1, fun vs F1 H1 x1 r1 => ?_⟩
    obtain ⟨v, rfl, r⟩ := r1.one
    exact ⟨_, by rw [r.int_inv], c.1, c.2, q F1 H1 _ x1 itf_rng⟩
  · cases hf
theorem i_range2 (hg : Gl X "range") (hm : X.mg "range" = none) (ha : PA X [a, b] (ofA X.K cm fs)) (hs : starEach [a, b] X.env = [(false, eval a X.env), (false, eval b X.env)] := by rfl) (hs2 : starEach [b] X.env = [(false, eval b X.env)] := by rfl) : PI X tg (.Call (.Name "range" p) [a, b] [] pos) (ofIS X.K cm (itR2 fs)) := PI.imp (pi_range2 hg hm ha hs hs2) fun σ H Q ⟨F, ρ, As, ds, rel, hf, q⟩ => by
  obtain ⟨ns, e1, hf⟩ := bind_some hf
  split at hf
  · obtain ⟨c, rfl⟩ := ite_some hf
    refine ⟨F, ρ, As, _, rel, e1, fun vs F1 H1 x1 r1 => ?_⟩
    obtain ⟨v, v', rfl, r, r'⟩ := r1.two
    exact ⟨_, _, by rw [r.int_inv, r'.int_inv], c, q F1 H1 _ x1 itf_rng⟩
  · cases hf

/-! ### targets -/
def ofG (K : PySem.W.Frag) (cm : CM) (h : Dat → Rho → Option Rho) (is : List Nat) : TG := fun v σ H Q => ∃ F ρ As d ρ', Rel K cm F H σ ρ As ∧ R K cm F v d ∧ h d ρ = some ρ' ∧
  ∀ σ' As', Rel K cm F H σ' ρ' As' → (∀ i, ∀ a ∈ As' i, a ∈ As i) → (∀ j, j ∉ is → σ'[j]? = σ[j]?) → σ'.length = σ.length → Q σ' H
def ofGs (K : PySem.W.Frag) (cm : CM) (h : List Dat → Rho → Option Rho) (is : List Nat) : TGs := fun vs σ H Q => ∃ F ρ As ds ρ', Rel K cm F H σ ρ As ∧ Rs K cm F vs ds ∧ h ds ρ = some ρ' ∧
  ∀ σ' As', Rel K cm F H σ' ρ' As' → (∀ i, ∀ a ∈ As' i, a ∈ As i) → (∀ j, j ∉ is → σ'[j]? = σ[j]?) → σ'.length = σ.length → Q σ' H
theorem PG.imp {t t' : TG} (h : PG X e t) (i : ∀ v σ H Q, t' v σ H Q → t v σ H Q) : PG X e t' := ⟨fun pins s σ H v u Q I r q => h.run pins s σ H v u Q I r (i v σ H Q q)⟩
theorem PGs.imp {t t' : TGs} (h : PGs X es t) (i : ∀ v σ H Q, t' v σ H Q → t v σ H Q) : PGs X es t' := ⟨fun pins s σ H v u Q I r q => h.run pins s σ H v u Q I r (i v σ H Q q)⟩
def hName (i : Nat) : Dat → Rho → Option Rho := fun d ρ => some (ρ.set i (some (.fro d)))
theorem g_name {i : Nat} {x : Str} (hN : X.N.Nodup) (hi : X.N[i]? = some x) (hx : Loc X.env.scope x) (hf : X.fn x = true ∨ X.env.scope.names.lookup x = some .local := by first | exact .inl rfl | exact .inr rfl | assumption) : PG X (.Name x pos) (ofG X.K cm (hName i) [i]) :=
  PG.imp (pg_name hN hi hx hf) fun v σ H Q ⟨F, ρ, As, d, ρ', rel, r, hd, q⟩ => by
    cases hd
    refine q _ _ (rel.setD r) (fun j a ha => ?_) (fun j hj => ?_) (by rw [List.length_set])
    · by_cases z : j = i
      · simp only [if_pos z] at ha
        simp at ha
      · simp only [if_neg z] at ha
        exact ha
    · rw [List.getElem?_set_ne (fun z => hj (by simp [z]))]
def hNil : List Dat → Rho → Option Rho := fun ds ρ => match ds with
  | [] => some ρ
  | _ :: _ => none
def hCons (h : Dat → Rho → Option Rho) (hs : List Dat → Rho → Option Rho) : List Dat → Rho → Option Rho := fun ds ρ => match ds with
  | [] => none
  | d :: ds => (h d ρ).bind fun ρ1 => hs ds ρ1
theorem gs_nil : PGs X [] (ofGs X.K cm hNil []) := PGs.imp pgs_nil fun vs σ H Q ⟨F, ρ, As, ds, ρ', rel, r, hd, q⟩ => by
  cases r with
  | nil =>
    cases hd
    exact ⟨rfl, q σ As rel (fun _ _ h => h) (fun _ _ => rfl) rfl⟩
  | cons _ _ => cases hd
theorem gs_cons {h : Dat → Rho → Option Rho} {hs : List Dat → Rho → Option Rho} {is js : List Nat} (h1 : PG X e (ofG X.K cm h is)) (h2 : PGs X es (ofGs X.K cm hs js)) (hst : (assignEach (e :: es) X.env).map (·.2) = assign e X.env :: (assignEach es X.env).map (·.2) := by rfl) : PGs X (e :: es) (ofGs X.K cm (hCons h hs) (is ++ js)) :=
  PGs.imp (pgs_cons h1 h2 hst) fun vs σ H Q ⟨F, ρ, As, ds, ρ', rel, r, hd, q⟩ => by
    cases r with
    | nil => cases hd
    | cons r1 rs =>
      obtain ⟨ρ1, e1, hd⟩ := bind_some hd
      exact ⟨_, _, rfl, F, ρ, As, _, ρ1, rel, r1, e1, fun σ1 As1 rel1 s1 o1 l1 => ⟨F, ρ1, As1, _, ρ', rel1, rs, hd, fun σ2 As2 rel2 s2 o2 l2 => q σ2 As2 rel2 (fun i a h => s1 i a (s2 i a h)) (fun j hj => (o2 j fun z => hj (List.mem_append_right _ z)).trans (o1 j fun z => hj (List.mem_append_left _ z))) (l2.trans l1)⟩⟩
def hTup (n : Nat) (hs : List Dat → Rho → Option Rho) : Dat → Rho → Option Rho := fun d ρ => match d with
  | .tup ds => if ds.length = n then hs ds ρ else none
  | _ => none
theorem g_tup {k n : Nat} {hs : List Dat → Rho → Option Rho} {is : List Nat} (hc : X.calm = true) (h : PGs X es (ofGs X.K cm hs is)) (hn : (assignEach es X.env).length = n := by rfl) (hst : (assignEach es X.env).findIdx? (·.1) = none := by rfl) : PG X (.Tuple es k pos) (ofG X.K cm (hTup n hs) is) :=
  PG.imp (pg_tup hc h hn hst) fun v σ H Q ⟨F, ρ, As, d, ρ', rel, r, hd, q⟩ => by
    unfold hTup at hd
    split at hd
    · split at hd
      · rename_i c
        obtain ⟨p, vs, rfl, g, rs⟩ := r.tup_inv
        exact ⟨p, vs, rfl, same_sqT rel.fh g, by rw [rs.length]; exact c, F, ρ, As, _, ρ', rel, rs, hd, q⟩
      · cases hd
    · cases hd

/-! ### comprehensions -/
def wipeR (ρ : Rho) : List Nat → Rho
  | [] => ρ
  | v :: vs => (wipeR ρ vs).set v none
theorem wipeR_len (ρ : Rho) : ∀ vs : List Nat, (wipeR ρ vs).length = ρ.length
  | [] => rfl
  | v :: vs => by rw [wipeR, List.length_set, wipeR_len ρ vs]
theorem wipe_in (σ : L2.St) : ∀ (vs : List Nat) (i : Nat), i ∈ vs → i < σ.length → (wipe σ vs)[i]? = some none
  | v :: vs, i, hi, hl => by
    rw [wipe]
    by_cases hv : v = i
    · subst hv
      rw [List.getElem?_set_self (by rw [wipe_length]; exact hl)]
    · rw [List.getElem?_set_ne hv]
      rcases List.mem_cons.mp hi with z | z
      · exact absurd z.symm hv
      · exact wipe_in σ vs i z hl
theorem wipe_out (σ : L2.St) : ∀ (vs : List Nat) (i : Nat), i ∉ vs → (wipe σ vs)[i]? = σ[i]?
  | [], i, _ => rfl
  | v :: vs, i, hi => by
    rw [wipe, List.getElem?_set_ne (fun z => hi (by simp [z]))]
    exact wipe_out σ vs i fun z => hi (List.mem_cons_of_mem _ z)
theorem wipeR_in (ρ : Rho) : ∀ (vs : List Nat) (i : Nat), i ∈ vs → i < ρ.length → (wipeR ρ vs)[i]? = some none
  | v :: vs, i, hi, hl => by
    rw [wipeR]
    by_cases hv : v = i
    · subst hv
      rw [List.getElem?_set_self (by rw [wipeR_len]; exact hl)]
    · rw [List.getElem?_set_ne hv]
      rcases List.mem_cons.mp hi with z | z
      · exact absurd z.symm hv
      · exact wipeR_in ρ vs i z hl
theorem wipeR_out (ρ : Rho) : ∀ (vs : List Nat) (i : Nat), i ∉ vs → (wipeR ρ vs)[i]? = ρ[i]?
  | [], i, _ => rfl
  | v :: vs, i, hi => by
    rw [wipeR, List.getElem?_set_ne (fun z => hi (by simp [z]))]
    exact wipeR_out ρ vs i fun z => hi (List.mem_cons_of_mem _ z)
theorem wipe_eq {σ σ2 : L2.St} {vs : List Nat} (hl : σ2.length = σ.length) (h : ∀ j, j ∉ vs → σ2[j]? = (wipe σ vs)[j]?) : wipe σ2 vs = wipe σ vs := by
  apply List.ext_getElem?
  intro i
  by_cases hi : i ∈ vs
  · by_cases hb : i < σ.length
    · rw [wipe_in σ2 vs i hi (by rw [hl]; exact hb), wipe_in σ vs i hi hb]
    · rw [List.getElem?_eq_none (by rw [wipe_length]; omega), List.getElem?_eq_none (by rw [wipe_length]; omega)]
  · rw [wipe_out σ2 vs i hi]
    exact h i hi
theorem Rel.wipe {K : PySem.W.Frag} {F H : Hp} {σ : L2.St} {ρ : Rho} {As : Nat → List Addr} (r : Rel K cm F H σ ρ As) (vs : List Nat) : Rel K cm F H (L2.wipe σ vs) (wipeR ρ vs) As := r.weak (by rw [wipe_length, wipeR_len]; exact r.len) fun i sv h => by
  by_cases hi : i ∈ vs
  · by_cases hb : i < ρ.length
    · rw [wipeR_in ρ vs i hi hb] at h
      cases h
    · rw [List.getElem?_eq_none (by rw [wipeR_len]; omega)] at h
      cases h
  · rw [wipeR_out ρ vs i hi] at h
    exact ⟨h, wipe_out σ vs i hi⟩
def lcGo (h : Dat → Rho → Option Rho) (t : Rho → Option Bool) (f : Rho → Option Dat) (ρ : Rho) : List Dat → Option (List Dat)
  | [] => some []
  | d :: ds => (h d ρ).bind fun ρ1 => (t ρ1).bind fun c => if c = true then (f ρ1).bind fun y => (lcGo h t f ρ ds).map fun ys => y :: ys else lcGo h t f ρ ds
def lcL (it : Rho → Option (List Dat)) (vs : List Nat) (h : Dat → Rho → Option Rho) (t : Rho → Option Bool) (f : Rho → Option Dat) : Rho → Option (List Dat) := fun ρ => (it ρ).bind fun ds => @ite _ (ds.length ≤ sizeLine) (Classical.propDecidable _) (lcGo h t f (wipeR ρ vs) ds) none
theorem lc_run {it : Rho → Option (List Dat)} {vs is : List Nat} {h : Dat → Rho → Option Rho} {t : Rho → Option Bool} {f : Rho → Option Dat} (hsub : ∀ i ∈ is, i ∈ vs) {F H : Hp} {σ : L2.St} {ρ : Rho} {As : Nat → List Addr} {out : List Dat} {Q : VK} (rel : Rel X.K cm F H σ ρ As) (hf : lcL it vs h t f ρ = some out)
    (q : ∀ F' H' D acc, Ext F H F' H' → F' D = none → H D = none → H' D = some (.lst acc) → Rs X.K cm F' acc out → Q (.ref D) H') : tLc (ofI X.K cm it) (ofG X.K cm h is) (ofT X.K cm t) (ofE X.K cm f) vs σ H Q := by
  obtain ⟨ds, e1, hf⟩ := bind_some hf
  split at hf
  case isFalse => cases hf
  rename_i hz
  refine ⟨F, ρ, As, ds, rel, e1, fun F1 H1 J x1 hJ D hD => ?_⟩
  have hFD : F1 D = none := x1.fh.free hD
  refine ⟨fun i m H' => m = ds.length - i ∧ i ≤ ds.length ∧ ∃ F2 acc o1 o2, Ext F1 H1 F2 H' ∧ F2 D = none ∧ H' D = some (.lst acc) ∧ Rs X.K cm F2 acc o1 ∧ acc.length ≤ i ∧ lcGo h t f (wipeR ρ vs) (ds.drop i) = some o2 ∧ o1 ++ o2 = out,
    ⟨ds.length, by simp, Nat.zero_le _, F1, [], [], out, Ext.open x1.fh hD, hFD, upd_same, .nil, Nat.zero_le _, hf, rfl⟩, ?_⟩
  rintro i m H2 ⟨rfl, hi, F2, acc, o1, o2, x2, hF2, hH2, ra, la, hgo, heq⟩
  by_cases hlt : i < ds.length
  · refine .inr ⟨hJ.go i F2 H2 x2.f x2.fh ((rel.cel.ext x1).ext x2) hlt, fun H' => ∃ F3 acc' o1' o2', Ext F1 H1 F3 H' ∧ F3 D = none ∧ H' D = some (.lst acc') ∧ Rs X.K cm F3 acc' o1' ∧ acc'.length ≤ i + 1 ∧ lcGo h t f (wipeR ρ vs) (ds.drop (i + 1)) = some o2' ∧ o1' ++ o2' = out, fun H' z => ⟨ds.length - (i + 1), by omega, rfl, hlt, z⟩, fun x H' hy => ?_⟩
    obtain ⟨F3, d, x3, ed, rd⟩ := hJ.yld i F2 H2 x H' x2.f x2.fh ((rel.cel.ext x1).ext x2) hlt hy
    rw [List.drop_eq_getElem_cons hlt, lcGo] at hgo
    have edd : ds[i] = d := by rw [List.getElem?_eq_getElem hlt] at ed; exact Option.some.inj ed
    rw [edd] at hgo
    obtain ⟨ρ1, e2, hgo⟩ := bind_some hgo
    obtain ⟨c, e3, hgo⟩ := bind_some hgo
    have x123 := x1.trans (x2.trans x3)
    refine ⟨F3, wipeR ρ vs, As, d, ρ1, (rel.ext x123).wipe vs, rd, e2, fun σ2 As2 rel2 s2 ou2 l2 => ⟨wipe_eq (l2.trans (wipe_length _ _)) fun j hj => ou2 j fun z => hj (hsub j z), F3, ρ1, As2, c, rel2, e3, fun F4 H4 x4 => ?_⟩⟩
    have x34 := x3.trans x4
    cases c with
    | true =>
      rw [if_pos rfl] at hgo
      obtain ⟨y, e4, hgo⟩ := bind_some hgo
      obtain ⟨ys, e5, rfl⟩ := map_some' hgo
      refine iteT ?_
      refine ⟨F4, ρ1, As2, y, rel2.ext x4, e4, fun v F5 H5 x5 r5 => ?_⟩
      have x345 := x34.trans x5
      have hD5 := x345.h _ _ hH2
      have hF5 := ext_none x345 hH2 hF2
      refine ⟨acc, hD5, by omega, F5, acc ++ [v], o1 ++ [y], ys, ?_, hF5, upd_same, (ra.mono x345.f).append (.cons r5 .nil), by rw [List.length_append, List.length_singleton]; omega, e5, by rw [List.append_assoc]; exact heq⟩
      have xx := x2.trans x345
      refine ⟨xx.f, fun a o z => ?_, fun a o z => ?_, xx.new⟩
      · rw [upd_ne (ne_of_none z hD)]
        exact xx.h a o z
      · rw [upd_ne (ne_of_none z hF5)]
        exact xx.fh a o z
    | false =>
      rw [if_neg Bool.false_ne_true] at hgo
      refine iteF ?_
      exact ⟨F4, acc, o1, o2, x2.trans x34, ext_none x34 hH2 hF2, x34.h _ _ hH2, ra.mono x34.f, by omega, hgo, heq⟩
  · have ei : i = ds.length := by omega
    subst ei
    rw [List.drop_length, lcGo] at hgo
    cases hgo
    rw [List.append_nil] at heq
    subst heq
    exact .inl ⟨hJ.stop _ F2 H2 x2.f x2.fh ((rel.cel.ext x1).ext x2) (Nat.le_refl _), q F2 H2 D acc (x1.trans x2) hF2 (x1.h.free hD) hH2 ra⟩
def lcS (it : Rho → Option (List Dat)) (vs : List Nat) (h : Dat → Rho → Option Rho) (t : Rho → Option Bool) (f : Rho → Option Dat) : Rho → Option Dat := fun ρ => (lcL it vs h t f ρ).map Dat.lst
def lcO (it : Rho → Option (List Dat)) (vs : List Nat) (h : Dat → Rho → Option Rho) (t : Rho → Option Bool) (f : Rho → Option Dat) : Rho → Option SV := fun ρ => (lcL it vs h t f ρ).map fun ds => .ol (ds.map SV.fro)
theorem lc_of {it : Rho → Option (List Dat)} {vs is : List Nat} {h : Dat → Rho → Option Rho} {t : Rho → Option Bool} {f : Rho → Option Dat} (hsub : ∀ i ∈ is, i ∈ vs) : ∀ σ H Q, ofE X.K cm (lcS it vs h t f) σ H Q → tLc (ofI X.K cm it) (ofG X.K cm h is) (ofT X.K cm t) (ofE X.K cm f) vs σ H Q := fun σ H Q ⟨F, ρ, As, d, rel, hf, k⟩ => by
  obtain ⟨ds, e1, rfl⟩ := map_some' hf
  refine lc_run hsub rel e1 fun F1 H1 D acc x1 n1 n2 g r => ?_
  refine k _ (plus F1 H1 [D]) H1 ⟨x1.f.trans (plus_same fun a h => by simp at h; rw [h]; exact n1), x1.h, plus_le x1.fh, fun a o z n => ?_⟩ (.lst (.inl (by rw [plus_in (by simp)]; exact g)) (r.mono (plus_same fun a h => by simp at h; rw [h]; exact n1)))
  by_cases hD : a ∈ [D]
  · simp at hD
    rw [hD]
    exact n2
  · rw [plus_out hD] at z
    exact x1.new a o z n
theorem lco_of {it : Rho → Option (List Dat)} {vs is : List Nat} {h : Dat → Rho → Option Rho} {t : Rho → Option Bool} {f : Rho → Option Dat} (hsub : ∀ i ∈ is, i ∈ vs) : ∀ σ H Q, ofO X.K cm (lcO it vs h t f) σ H Q → tLc (ofI X.K cm it) (ofG X.K cm h is) (ofT X.K cm t) (ofE X.K cm f) vs σ H Q := fun σ H Q ⟨F, ρ, As, d, rel, hf, k⟩ => by
  obtain ⟨ds, e1, rfl⟩ := map_some' hf
  exact lc_run hsub rel e1 fun F1 H1 D acc x1 n1 n2 g r => k _ F1 H1 [D] x1 (.ol n1 g (ros_fro r)) (by simp) (by simpa using n2)
theorem ts_nil : PTs X [] (ofT X.K cm fun _ => some true) := ⟨fun pins s σ H Q I ⟨F, ρ, As, k, rel, hf, q⟩ => by
  cases hf
  exact pts_nil.run pins s σ H Q I (q F H (Ext.refl rel.fh))⟩
def yes : Rho → Option Bool := fun _ => some true
theorem ts_yes : PTs X [] (ofT X.K cm yes) := ts_nil
theorem ts_one {t : Rho → Option Bool} (h : PT X e (ofT X.K cm t)) : PTs X [e] (ofT X.K cm t) := pts_one h
section
variable {elt tg iter : Expr} {ifs : List Expr} {scope : Scope} {own : List (Str × Nat)} {it : Rho → Option (List Dat)} {is : List Nat} {h : Dat → Rho → Option Rho} {t : Rho → Option Bool} {fe : Rho → Option Dat}
theorem e_lc {vs : List Nat} (hv : own.map (·.2) = vs) (hc : X.calm = true) (hN : X.N.Nodup) (hi : PI X tg iter (ofI X.K cm it)) (ok : BlkOk X.N X.env.scope scope own) (hsub : ∀ i ∈ is, i ∈ own.map (·.2))
    (hg : ∀ (s : Shared) (H : Hp) (C : Addr) (cl : List (Str × Addr)) (fp : List Addr), PG (X.blk s H scope (compEnvC scope cl C X.env) fp) tg (ofG X.K cm h is)) (ht : ∀ (s : Shared) (H : Hp) (C : Addr) (cl : List (Str × Addr)) (fp : List Addr), PTs (X.blk s H scope (compEnvC scope cl C X.env) fp) ifs (ofT X.K cm t))
    (he : ∀ (s : Shared) (H : Hp) (C : Addr) (cl : List (Str × Addr)) (fp : List Addr), PE (X.blk s H scope (compEnvC scope cl C X.env) fp) elt (ofE X.K cm fe)) (hs : ∀ x, foldedSetIterable iter X.env x = pure x := by intro _; rfl) :
    PE X (.ListComp elt [⟨tg, iter, ifs, 0⟩] scope pos) (ofE X.K cm (lcS it vs h t fe)) := by
  subst hv
  exact PE.imp (pe_lc hc hN hi ok hg ht he hs) (lc_of hsub)
theorem o_lc {vs : List Nat} (hv : own.map (·.2) = vs) (hc : X.calm = true) (hN : X.N.Nodup) (hi : PI X tg iter (ofI X.K cm it)) (ok : BlkOk X.N X.env.scope scope own) (hsub : ∀ i ∈ is, i ∈ own.map (·.2))
    (hg : ∀ (s : Shared) (H : Hp) (C : Addr) (cl : List (Str × Addr)) (fp : List Addr), PG (X.blk s H scope (compEnvC scope cl C X.env) fp) tg (ofG X.K cm h is)) (ht : ∀ (s : Shared) (H : Hp) (C : Addr) (cl : List (Str × Addr)) (fp : List Addr), PTs (X.blk s H scope (compEnvC scope cl C X.env) fp) ifs (ofT X.K cm t))
    (he : ∀ (s : Shared) (H : Hp) (C : Addr) (cl : List (Str × Addr)) (fp : List Addr), PE (X.blk s H scope (compEnvC scope cl C X.env) fp) elt (ofE X.K cm fe)) (hs : ∀ x, foldedSetIterable iter X.env x = pure x := by intro _; rfl) :
    PE X (.ListComp elt [⟨tg, iter, ifs, 0⟩] scope pos) (ofO X.K cm (lcO it vs h t fe)) := by
  subst hv
  exact PE.imp (pe_lc hc hN hi ok hg ht he hs) (lco_of hsub)
end
end
end
end Pq

namespace Pq
open PySem PySem.Spec PyProof.Rows L2
noncomputable section
section
variable {X : Cx} {cm : CM} {W : L2.WX} {e : Expr} {st : Stmt} {sts : List Stmt} {f : Rho → Option Dat} {o : Rho → Option SV} {b c : Rho → Res} {t : Rho → Option Bool} {pos : Pos}

/-! ### states -/
theorem Sta.set {K : PySem.W.Frag} {F0 H0 F H F1 H1 : Hp} {ρ : Rho} {σ : L2.St} {As : Nat → List Addr} (rel : Rel K cm F H σ ρ As) (x : Ext F0 H0 F H) (n : ∀ i, ∀ a ∈ As i, H0 a = none) (x1 : Ext F H F1 H1) {i : Nat} {v : V} {sv : SV} {A : List Addr} (r : RO K cm F1 H1 v sv A) (nd : A.Nodup) (nA : ∀ a ∈ A, H a = none) :
    Sta K cm F0 H0 (ρ.set i (some sv)) (σ.set i (some v)) H1 := ⟨F1, _, rel.setN x1 r nd nA, x.trans x1, fun j a h => by
  by_cases hj : j = i
  · simp only [if_pos hj] at h
    exact x.h.free (nA a h)
  · simp only [if_neg hj] at h
    exact n j a h⟩
theorem Sta.ext {K : PySem.W.Frag} {F0 H0 F H F1 H1 : Hp} {ρ : Rho} {σ : L2.St} {As : Nat → List Addr} (rel : Rel K cm F H σ ρ As) (x : Ext F0 H0 F H) (n : ∀ i, ∀ a ∈ As i, H0 a = none) (x1 : Ext F H F1 H1) : Sta K cm F0 H0 ρ σ H1 := ⟨F1, As, rel.ext x1, x.trans x1, n⟩

/-! ### assignments -/
def asgS (i : Nat) (f : Rho → Option Dat) : Rho → Res := fun ρ => match f ρ with
  | some d => .nx (ρ.set i (some (.fro d)))
  | none => .bad
def asgO (i : Nat) (o : Rho → Option SV) : Rho → Res := fun ρ => match o ρ with
  | some sv => .nx (ρ.set i (some sv))
  | none => .bad
theorem asg_of {i : Nat} : ∀ D σ H, ofS X.K cm W (asgS i f) D σ H → tAsg (ofE X.K cm f) (gName i) D σ H := fun D σ H ⟨F0, H0, ρ, ⟨F, As, rel, x, n⟩, q⟩ => by
  unfold asgS at q
  split at q
  · rename_i d e1
    exact ⟨F, ρ, As, d, rel, e1, fun v F1 H1 x1 r1 => q _ _ (Sta.set rel x n x1 (.fro r1) .nil (by simp))⟩
  · exact q.elim
theorem asgO_of {i : Nat} : ∀ D σ H, ofS X.K cm W (asgO i o) D σ H → tAsg (ofO X.K cm o) (gName i) D σ H := fun D σ H ⟨F0, H0, ρ, ⟨F, As, rel, x, n⟩, q⟩ => by
  unfold asgO at q
  split at q
  · rename_i d e1
    exact ⟨F, ρ, As, d, rel, e1, fun v F1 H1 A x1 r1 nd nA => q _ _ (Sta.set rel x n x1 r1 nd nA)⟩
  · exact q.elim
theorem p_set {i : Nat} {x : Str} {pos' : Pos} (hN : X.N.Nodup) (hi : X.N[i]? = some x) (hx : Loc X.env.scope x) (he : PE X e (ofE X.K cm f)) (hs : swapsWith e (some (.Name x pos')) pos.line X.env = pure false := by rfl) (hf : X.fn x = true ∨ X.env.scope.names.lookup x = some .local := by first | exact .inl rfl | exact .inr rfl | assumption) :
    PS X (.Assign [.Name x pos'] e pos) (ofS X.K cm W (asgS i f)) := PS.imp (ps_set hN hi hx he hs hf) asg_of
theorem p_setO {i : Nat} {x : Str} {pos' : Pos} (hN : X.N.Nodup) (hi : X.N[i]? = some x) (hx : Loc X.env.scope x) (he : PE X e (ofO X.K cm o)) (hs : swapsWith e (some (.Name x pos')) pos.line X.env = pure false := by rfl) (hf : X.fn x = true ∨ X.env.scope.names.lookup x = some .local := by first | exact .inl rfl | exact .inr rfl | assumption) :
    PS X (.Assign [.Name x pos'] e pos) (ofS X.K cm W (asgO i o)) := PS.imp (ps_set hN hi hx he hs hf) asgO_of
section
variable {elt tg iter : Expr} {ifs : List Expr} {scope : Scope} {own : List (Str × Nat)} {it : Rho → Option (List Dat)} {is : List Nat} {h : Dat → Rho → Option Rho} {tc : Rho → Option Bool} {fe : Rho → Option Dat} {i : Nat} {y : Str} {py spos : Pos}
/-- name = [..] on one line -/
theorem p_setLc {vs : List Nat} (hv : own.map (·.2) = vs) (hc : X.calm = true) (hN : X.N.Nodup) (hy : X.N[i]? = some y) (hyl : X.env.scope.names.lookup y = some .local) (hsw : swapsWith (.ListComp elt [⟨tg, iter, ifs, 0⟩] scope pos) (some (.Name y py)) spos.line X.env = pure true) (hi : PI X tg iter (ofI X.K cm it)) (ok : BlkOk X.N X.env.scope scope own) (hsub : ∀ i ∈ is, i ∈ own.map (·.2))
    (hg : ∀ (s : Shared) (H : Hp) (C : Addr) (cl : List (Str × Addr)) (fp : List Addr), PG (X.blk s H scope (compEnvC scope cl C X.env) fp) tg (ofG X.K cm h is)) (ht : ∀ (s : Shared) (H : Hp) (C : Addr) (cl : List (Str × Addr)) (fp : List Addr), PTs (X.blk s H scope (compEnvC scope cl C X.env) fp) ifs (ofT X.K cm tc))
    (he : ∀ (s : Shared) (H : Hp) (C : Addr) (cl : List (Str × Addr)) (fp : List Addr), PE (X.blk s H scope (compEnvC scope cl C X.env) fp) elt (ofE X.K cm fe)) (hs : ∀ x, foldedSetIterable iter X.env x = pure x := by intro _; rfl) :
    PS X (.Assign [.Name y py] (.ListComp elt [⟨tg, iter, ifs, 0⟩] scope pos) spos) (ofS X.K cm W (asgS i (lcS it vs h tc fe))) := by
  subst hv
  exact PS.imp (ps_setLc hc hN hy hyl hsw hi ok hg ht he hs) fun D σ H q => lc_of hsub σ H _ (asg_of D σ H q)
theorem p_setLcO {vs : List Nat} (hv : own.map (·.2) = vs) (hc : X.calm = true) (hN : X.N.Nodup) (hy : X.N[i]? = some y) (hyl : X.env.scope.names.lookup y = some .local) (hsw : swapsWith (.ListComp elt [⟨tg, iter, ifs, 0⟩] scope pos) (some (.Name y py)) spos.line X.env = pure true) (hi : PI X tg iter (ofI X.K cm it)) (ok : BlkOk X.N X.env.scope scope own) (hsub : ∀ i ∈ is, i ∈ own.map (·.2))
    (hg : ∀ (s : Shared) (H : Hp) (C : Addr) (cl : List (Str × Addr)) (fp : List Addr), PG (X.blk s H scope (compEnvC scope cl C X.env) fp) tg (ofG X.K cm h is)) (ht : ∀ (s : Shared) (H : Hp) (C : Addr) (cl : List (Str × Addr)) (fp : List Addr), PTs (X.blk s H scope (compEnvC scope cl C X.env) fp) ifs (ofT X.K cm tc))
    (he : ∀ (s : Shared) (H : Hp) (C : Addr) (cl : List (Str × Addr)) (fp : List Addr), PE (X.blk s H scope (compEnvC scope cl C X.env) fp) elt (ofE X.K cm fe)) (hs : ∀ x, foldedSetIterable iter X.env x = pure x := by intro _; rfl) :
    PS X (.Assign [.Name y py] (.ListComp elt [⟨tg, iter, ifs, 0⟩] scope pos) spos) (ofS X.K cm W (asgO i (lcO it vs h tc fe))) := by
  subst hv
  exact PS.imp (ps_setLc hc hN hy hyl hsw hi ok hg ht he hs) fun D σ H q => lco_of hsub σ H _ (asgO_of D σ H q)
end
/-- (a, b, ..) = e -/
def asgT (h : Dat → Rho → Option Rho) (f : Rho → Option Dat) : Rho → Res := fun ρ => match f ρ with
  | some d => match h d ρ with
    | some ρ' => .nx ρ'
    | none => .bad
  | none => .bad
theorem p_setT {tg : Expr} {h : Dat → Rho → Option Rho} {is : List Nat} (he : PE X e (ofE X.K cm f)) (hg : PG X tg (ofG X.K cm h is)) (hs : swapsWithSole [tg] e pos.line X.env = pure false := by rfl) (hw : swappedStores [tg] e X.env = pure none := by rfl)
    (h1 : (assignEach [tg] X.env).map (·.2) = [assign tg X.env] := by rfl) : PS X (.Assign [tg] e pos) (ofS X.K cm W (asgT h f)) := PS.imp (ps_asg he hg hs hw h1) fun D σ H ⟨F0, H0, ρ, ⟨F, As, rel, x, n⟩, q⟩ => by
  unfold asgT at q
  split at q
  · rename_i d e1
    split at q
    · rename_i ρ' e2
      exact ⟨F, ρ, As, d, rel, e1, fun v F1 H1 x1 r1 => ⟨F1, ρ, As, d, ρ', rel.ext x1, r1, e2, fun σ' As' rel' s' _ _ => q _ _ ⟨F1, As', rel', x.trans x1, fun i a h => n i a (s' i a h)⟩⟩⟩
    · exact q.elim
  · exact q.elim
def plusD : Dat → Dat → Option Dat
  | .int i, .int j => some (.int (i + j))
  | _, _ => none
/-- name += e, ints -/
theorem p_augAdd {i : Nat} {x : Str} {pos' : Pos} (hN : X.N.Nodup) (hi : X.N[i]? = some x) (hx : Loc X.env.scope x) (he : PE X e (ofE X.K cm f)) (hf : X.fn x = true ∨ X.env.scope.names.lookup x = some .local := by first | exact .inl rfl | exact .inr rfl | assumption) :
    PS X (.AugAssign (.Name x pos') .Add e pos) (ofS X.K cm W (asgS i (bin plusD (rd i) f))) := PS.imp (ps_aug hN hi hx he ip_add hf) fun D σ H ⟨F0, H0, ρ, ⟨F, As, rel, x, n⟩, q⟩ => by
  unfold asgS at q
  split at q
  · rename_i d e1
    obtain ⟨y, e2, e1⟩ := bind_some e1
    obtain ⟨z, e3, e1⟩ := bind_some e1
    obtain ⟨v, h1, r1⟩ := rel.rd e2
    refine ⟨v, h1, F, ρ, As, z, rel, e3, fun w F1 H1 x1 r2 => ?_⟩
    unfold plusD at e1
    split at e1
    · cases e1
      exact ⟨_, _, r1.int_inv, r2.int_inv, q _ _ (Sta.set (i := i) rel x n x1 (.fro (.int _)) .nil (by simp))⟩
    · cases e1
  · exact q.elim

/-! ### flow -/
def retS (f : Rho → Option Dat) : Rho → Res := fun ρ => match f ρ with
  | some d => .ret (.fro d)
  | none => .bad
def retO (f : Rho → Option SV) : Rho → Res := fun ρ => match f ρ with
  | some sv => .ret sv
  | none => .bad
theorem p_ret (he : PE X e (ofE X.K cm f)) : PS X (.Return (some e) pos) (ofS X.K cm W (retS f)) := PS.imp (ps_ret he) fun D σ H ⟨F0, H0, ρ, ⟨F, As, rel, x, n⟩, q⟩ => by
  unfold retS at q
  split at q
  · rename_i d e1
    exact ⟨F, ρ, As, d, rel, e1, fun v F1 H1 x1 r1 => q v F1 H1 [] (x.trans x1) (.fro r1) .nil (by simp)⟩
  · exact q.elim
theorem p_retO (he : PE X e (ofO X.K cm o)) : PS X (.Return (some e) pos) (ofS X.K cm W (retO o)) := PS.imp (ps_ret he) fun D σ H ⟨F0, H0, ρ, ⟨F, As, rel, x, n⟩, q⟩ => by
  unfold retO at q
  split at q
  · rename_i d e1
    exact ⟨F, ρ, As, d, rel, e1, fun v F1 H1 A x1 r1 nd nA => q v F1 H1 A (x.trans x1) r1 nd fun a h => x.h.free (nA a h)⟩
  · exact q.elim
def rtN : Rho → Res := fun _ => .ret (.fro .non)
theorem p_retN : PS X (.Return none pos) (ofS X.K cm W rtN) := PS.imp ps_retN fun D σ H ⟨F0, H0, ρ, ⟨F, As, rel, x, n⟩, q⟩ => q .non F H [] x (.fro .non) .nil (by simp)
def ifS (t : Rho → Option Bool) (b c : Rho → Res) : Rho → Res := fun ρ => match t ρ with
  | some true => b ρ
  | some false => c ρ
  | none => .bad
theorem p_if {tx : Expr} {as bs : List Stmt} (ht : PT X tx (ofT X.K cm t)) (ha : PSs X as (ofS X.K cm W b)) (hb : PSs X bs (ofS X.K cm W c)) : PS X (.If tx as bs pos) (ofS X.K cm W (ifS t b c)) := PS.imp (ps_if ht ha hb) fun D σ H ⟨F0, H0, ρ, ⟨F, As, rel, x, n⟩, q⟩ => by
  unfold ifS at q
  split at q
  · rename_i e1
    exact ⟨F, ρ, As, true, rel, e1, fun F1 H1 x1 => iteT ⟨F0, H0, ρ, Sta.ext rel x n x1, q⟩⟩
  · rename_i e1
    exact ⟨F, ρ, As, false, rel, e1, fun F1 H1 x1 => iteF ⟨F0, H0, ρ, Sta.ext rel x n x1, q⟩⟩
  · exact q.elim
def nilS : Rho → Res := fun ρ => .nx ρ
def seqS (b c : Rho → Res) : Rho → Res := fun ρ => match b ρ with
  | .nx ρ' => c ρ'
  | r => r
theorem p_nil : PSs X [] (ofS X.K cm W nilS) := PSs.imp pss_nil fun D σ H ⟨F0, H0, ρ, s, q⟩ => q σ H s
theorem p_cons (h1 : PS X st (ofS X.K cm W b)) (h2 : PSs X sts (ofS X.K cm W c)) : PSs X (st :: sts) (ofS X.K cm W (seqS b c)) := PSs.imp (pss_cons h1 h2) fun D σ H ⟨F0, H0, ρ, s, q⟩ => ⟨F0, H0, ρ, s, by
  unfold seqS at q
  cases hb : b ρ with
  | nx ρ' =>
    rw [hb] at q
    exact fun σ' H' s' => ⟨F0, H0, ρ', s', q⟩
  | ret sv => rw [hb] at q; exact q
  | brk ρ' => rw [hb] at q; exact q
  | cont ρ' => rw [hb] at q; exact q
  | exc n fs xs => rw [hb] at q; exact q
  | bad => rw [hb] at q; exact q⟩
theorem p_one (h1 : PS X st (ofS X.K cm W b)) : PSs X [st] (ofS X.K cm W b) := pss_one h1
def brkS : Rho → Res := fun ρ => .brk ρ
def contS : Rho → Res := fun ρ => .cont ρ
theorem p_pass : PS X (.Pass pos) (ofS X.K cm W nilS) := PS.imp ps_pass fun D σ H ⟨F0, H0, ρ, s, q⟩ => q σ H s
theorem p_break : PS X (.Break pos) (ofS X.K cm W brkS) := PS.imp ps_break fun D σ H ⟨F0, H0, ρ, s, q⟩ => q σ H s
theorem p_continue : PS X (.Continue pos) (ofS X.K cm W contS) := PS.imp ps_continue fun D σ H ⟨F0, H0, ρ, s, q⟩ => q σ H s
def drpS (o : Rho → Option SV) : Rho → Res := fun ρ => match o ρ with
  | some _ => .nx ρ
  | none => .bad
theorem p_expr (he : PE X e (ofO X.K cm o)) (hs : swapsWith e none pos.line X.env = pure false := by rfl) : PS X (.Expr e pos) (ofS X.K cm W (drpS o)) := PS.imp (ps_expr he hs) fun D σ H ⟨F0, H0, ρ, ⟨F, As, rel, x, n⟩, q⟩ => by
  unfold drpS at q
  split at q
  · rename_i d e1
    exact ⟨F, ρ, As, d, rel, e1, fun v F1 H1 A x1 r1 nd nA => q _ _ (Sta.ext rel x n x1)⟩
  · exact q.elim
/-- a place is settled ahead of a statement -/
def frzTo (i : Nat) (b : Rho → Res) : Rho → Res := fun ρ => b (frzAt i ρ)
theorem frz_sta {K : PySem.W.Frag} {F0 H0 H : Hp} {ρ : Rho} {σ : L2.St} (i : Nat) (s : Sta K cm F0 H0 ρ σ H) : Sta K cm F0 H0 (frzAt i ρ) σ H := by
  obtain ⟨F, As, rel, x, n⟩ := s
  obtain ⟨p1, p2⟩ := plus_ext rel i
  refine ⟨plus F H (As i), _, rel.frz i, ⟨x.f.trans p1, x.h, p2, fun a o h z => ?_⟩, fun j a h => ?_⟩
  · by_cases q : a ∈ As i
    · exact n i a q
    · rw [plus_out q] at h
      exact x.new a o h z
  · by_cases hj : j = i
    · simp only [if_pos hj] at h
      simp at h
    · simp only [if_neg hj] at h
      exact n j a h
theorem p_frz (i : Nat) (h : PS X st (ofS X.K cm W b)) : PS X st (ofS X.K cm W (frzTo i b)) := PS.imp h fun D σ H ⟨F0, H0, ρ, s, q⟩ => ⟨F0, H0, frzAt i ρ, frz_sta i s, q⟩
/-- a place's own object is looked at as data, for a while: a test, or what is no object -/
def lookT (i : Nat) (t : Rho → Option Bool) : Rho → Option Bool := fun ρ => t (frzAt i ρ)
theorem t_look {tx : Expr} (i : Nat) (h : PT X tx (ofT X.K cm t)) : PT X tx (ofT X.K cm (lookT i t)) := PT.imp h fun σ H Q ⟨F, ρ, As, k, rel, hf, q⟩ =>
  ⟨_, _, _, k, rel.frz i, hf, fun F1 H1 x1 => q F H1 ⟨Same.refl F, x1.h, rel.fh.trans x1.h, fun a o h z => by rw [h] at z; cases z⟩⟩
def isScal : Dat → Bool
  | .non => true | .bl _ => true | .int _ => true | .str _ => true
  | _ => false
def lookE (i : Nat) (f : Rho → Option Dat) : Rho → Option Dat := fun ρ => (f (frzAt i ρ)).bind fun d => if isScal d = true then some d else none
theorem R.scal {K : PySem.W.Frag} {F F' : Hp} {v : V} {d : Dat} (h : R K cm F v d) (s : isScal d = true) : R K cm F' v d := by
  cases h with
  | non => exact .non
  | bl b => exact .bl b
  | int i => exact .int i
  | str x => exact .str x
  | _ => cases s
theorem e_look (i : Nat) (h : PE X e (ofE X.K cm f)) : PE X e (ofE X.K cm (lookE i f)) := PE.imp h fun σ H Q ⟨F, ρ, As, d, rel, hf, q⟩ => by
  obtain ⟨d', e1, hf⟩ := bind_some hf
  obtain ⟨s, rfl⟩ := ite_some hf
  exact ⟨_, _, _, d', rel.frz i, e1, fun v F1 H1 x1 r1 => q v F H1 ⟨Same.refl F, x1.h, rel.fh.trans x1.h, fun a o h z => by rw [h] at z; cases z⟩ (r1.scal s)⟩

/-! ### what is one's own is changed -/
theorem Rel.upd {K : PySem.W.Frag} {F H : Hp} {σ : L2.St} {ρ : Rho} {As : Nat → List Addr} (rel : Rel K cm F H σ ρ As) {i : Nat} {a : Addr} {o : HO} {v : V} {sv sv' : SV} (ha : a ∈ As i) (hi : ρ[i]? = some (some sv)) (hv : σ[i]? = some (some v)) (r : RO K cm F (upd H a o) v sv' (As i)) : Rel K cm F (upd H a o) σ (ρ.set i (some sv')) As where
  len := by rw [List.length_set]; exact rel.len
  fh := fun b u h => by
    have : b ≠ a := fun z => by
      rw [z, (rel.own i a ha).1] at h
      cases h
    rw [upd_ne this]
    exact rel.fh b u h
  at_ := fun j sv1 h => by
    by_cases hj : i = j
    · subst hj
      have hl : i < ρ.length := (List.getElem?_eq_some_iff.mp hi).1
      rw [List.getElem?_set_self hl] at h
      cases h
      exact ⟨v, hv, r⟩
    · rw [List.getElem?_set_ne hj] at h
      obtain ⟨w, h1, h2⟩ := rel.at_ j sv1 h
      exact ⟨w, h1, h2.out (rel.sep i j hj a ha)⟩
  nd := rel.nd
  sep := rel.sep
  own := fun j b hb => by
    obtain ⟨n, u, q⟩ := rel.own j b hb
    refine ⟨n, ?_⟩
    by_cases hab : b = a
    · subst hab
      exact ⟨o, upd_same⟩
    · exact ⟨u, by rw [upd_ne hab]; exact q⟩
  cel := rel.cel.put_ (rel.out i a ha)
  out := rel.out
theorem ext_upd {F0 H0 F H : Hp} {a : Addr} {o : HO} (x : Ext F0 H0 F H) (h1 : F a = none) (h2 : H0 a = none) : Ext F0 H0 F (upd H a o) :=
  ⟨x.f, fun b u h => by rw [upd_ne (ne_of_none h h2)]; exact x.h b u h, fun b u h => by rw [upd_ne (ne_of_none h h1)]; exact x.fh b u h, x.new⟩
theorem RO.ol_inv {K : PySem.W.Frag} {F H : Hp} {v : V} {xs : List SV} {A : List Addr} (h : RO K cm F H v (.ol xs) A) : ∃ a vs B, v = .ref a ∧ A = a :: B ∧ F a = none ∧ H a = some (.lst vs) ∧ ROs K cm F H vs xs B := by
  cases h with
  | ol n h r => exact ⟨_, _, _, rfl, rfl, n, h, r⟩
theorem ROs.snoc {K : PySem.W.Frag} {F H : Hp} {w : V} {d : Dat} (r : R K cm F w d) : ∀ {vs : List V} {xs : List SV} {A : List Addr}, ROs K cm F H vs xs A → ROs K cm F H (vs ++ [w]) (xs ++ [.fro d]) A
  | _, _, _, .nil => .cons (A := []) (B := []) (.fro r) .nil
  | _, _, _, .cons q t => .cons q (ROs.snoc r t)
/-- name.append(e) -/
def pushS (i : Nat) (f : Rho → Option Dat) : Rho → Res := fun ρ => match f ρ with
  | some d => match ρ[i]? with
    | some (some (.ol xs)) => @ite _ (xs.length < sizeLine) (Classical.propDecidable _) (.nx (ρ.set i (some (.ol (xs ++ [.fro d]))))) .bad
    | _ => .bad
  | none => .bad
theorem p_push (i : Nat) {x : Str} {px apos cpos : Pos} {a : Expr} (hv : PE X (.Name x px) (tVar i)) (ha : PE X a (ofE X.K cm f))
    (hs : swapsWith (.Call (.Attribute (.Name x px) "append" apos) [a] [] cpos) none pos.line X.env = pure false := by rfl)
    (hbase : attributeBase (.Name x px) "append" X.env (eval (.Name x px) X.env) = eval (.Name x px) X.env := by rfl)
    (hfew : ((backTo cpos (starEach [a] X.env)).all (fun x => !x.1) && (backToKw cpos (keywordEach [] X.env)).all (fun x => x.1.isSome) && decide ([a].length + ([] : List Keyword).length + (if ([] : List Keyword).isEmpty then 0 else 1) < 30)) = true := by rfl)
    (hline : (apos.endLine == cpos.line) = true := by rfl) (hst : starEach [a] X.env = (false, eval a X.env) :: starEach [] X.env := by rfl) (hplain : (backTo cpos (starEach [] X.env)).any (·.1) = false := by rfl) :
    PS X (.Expr (.Call (.Attribute (.Name x px) "append" apos) [a] [] cpos) pos) (ofS X.K cm W (pushS i f)) :=
  PS.imp (ps_expr (pe_bm PySem.F.plainAttrs_list PySem.F.slot_list_append PySem.F.type_list_append mt_append hv (pa_cons ha pa_nil hst) hbase hfew hline hst hplain) hs) fun D σ H ⟨F0, H0, ρ, ⟨F, As, rel, x, n⟩, q⟩ => by
    unfold pushS at q
    split at q
    case h_2 => exact q.elim
    rename_i d e1
    split at q
    case h_2 => exact q.elim
    rename_i xs e2
    split at q
    case isFalse => exact q.elim
    rename_i hz
    obtain ⟨v, h1, r1⟩ := rel.at_ i _ e2
    obtain ⟨l, vs, B, rfl, eA, nF, hH, rs⟩ := r1.ol_inv
    refine ⟨.ref l, h1, .inl ⟨rfl, vs, .inl (.inl hH)⟩, F, ρ, As, d, rel, e1, fun w F1 H1 x1 r2 => ?_⟩
    have hH1 := x1.h _ _ hH
    refine ⟨l, vs, w, rfl, rfl, hH1, by rw [rs.length]; exact hz, ?_⟩
    have lA : l ∈ As i := by rw [eA]; exact List.mem_cons_self
    have hF1 := ext_none x1 hH nF
    refine q _ _ ⟨F1, As, (rel.ext x1).upd (o := .lst (vs ++ [w])) lA e2 h1 ?_, ext_upd (x.trans x1) hF1 (n i l lA), n⟩
    rw [eA]
    refine .ol hF1 upd_same (ROs.snoc r2 ((rs.ext x1).out ?_))
    have := rel.nd i
    rw [eA] at this
    exact (List.nodup_cons.mp this).1

/-! ### loops -/
def forGo (h : Dat → Rho → Option Rho) (b : Rho → Res) : List Dat → Rho → Res
  | [], ρ => .nx ρ
  | d :: ds, ρ => match h d ρ with
    | none => .bad
    | some ρ1 => match b ρ1 with
      | .nx ρ' => forGo h b ds ρ'
      | .cont ρ' => forGo h b ds ρ'
      | .brk ρ' => .nx ρ'
      | r => r
def forS (it : Rho → Option (List Dat)) (h : Dat → Rho → Option Rho) (b : Rho → Res) : Rho → Res := fun ρ => match it ρ with
  | none => .bad
  | some ds => forGo h b ds ρ
theorem post_go {K : PySem.W.Frag} {F0 H0 : Hp} {D : Ends} {r : Res} {P : L2.St → Hp → Prop} {Z : Rho → Res} (h : Post K cm W F0 H0 D (match r with
      | .nx ρ' => Z ρ'
      | .cont ρ' => Z ρ'
      | .brk ρ' => .nx ρ'
      | r => r)) (hP : ∀ ρ' σ' H', (r = .nx ρ' ∨ r = .cont ρ') → Sta K cm F0 H0 ρ' σ' H' → P σ' H') : Post K cm W F0 H0 { D with nx := P, ct := P, bk := D.nx } r := by
  cases r with
  | nx ρ' => exact fun σ' H' s => hP ρ' σ' H' (.inl rfl) s
  | cont ρ' => exact fun σ' H' s => hP ρ' σ' H' (.inr rfl) s
  | brk ρ' => exact fun σ' H' s => h σ' H' s
  | ret sv => exact h
  | exc n fs xs => exact h
  | bad => exact h
theorem p_for {tg iter : Expr} {body : List Stmt} {it : Rho → Option (List Dat)} {h : Dat → Rho → Option Rho} {is : List Nat} (hp : PassesOwn (model X.prog X.w) X.A X.env X.xe) (hc : X.calm = true) (hi : PI X tg iter (ofI X.K cm it)) (hg : PG X tg (ofG X.K cm h is)) (hb : PSs X body (ofS X.K cm W b))
    (hs : ∀ x, foldedSetIterable iter X.env x = pure x := by intro _; rfl) : PS X (.For tg iter body [] pos) (ofS X.K cm W (forS it h b)) := PS.imp (ps_for hp hc hi hg hb hs) fun D σ H ⟨F0, H0, ρ, ⟨F, As, rel, x, n⟩, q⟩ => by
  unfold forS at q
  split at q
  · exact q.elim
  rename_i ds e1
  refine ⟨F, ρ, As, ds, rel, e1, fun F1 H1 J x1 hJ => ?_⟩
  refine ⟨fun i m σ2 H2 => m = ds.length - i ∧ i ≤ ds.length ∧ ∃ ρ2 F2 As2, Rel X.K cm F2 H2 σ2 ρ2 As2 ∧ Ext F0 H0 F2 H2 ∧ Same F1 F2 ∧ (∀ i, ∀ a ∈ As2 i, H0 a = none) ∧ Post X.K cm W F0 H0 D (forGo h b (ds.drop i) ρ2),
    ⟨ds.length, by simp, Nat.zero_le _, ρ, F1, As, rel.ext x1, x.trans x1, Same.refl F1, n, q⟩, ?_⟩
  rintro i m σ2 H2 ⟨rfl, hi, ρ2, F2, As2, rel2, x2, s2, n2, q2⟩
  by_cases hlt : i < ds.length
  · refine .inr ⟨hJ.go i F2 H2 s2 rel2.fh rel2.cel hlt, fun σ' H' => ∃ ρ2 F3 As3, Rel X.K cm F3 H' σ' ρ2 As3 ∧ Ext F0 H0 F3 H' ∧ Same F1 F3 ∧ (∀ i, ∀ a ∈ As3 i, H0 a = none) ∧ Post X.K cm W F0 H0 D (forGo h b (ds.drop (i + 1)) ρ2), fun σ' H' z => ⟨ds.length - (i + 1), by omega, rfl, hlt, z⟩, fun v H' hy => ?_⟩
    obtain ⟨F3, d, x3, ed, rd⟩ := hJ.yld i F2 H2 v H' s2 rel2.fh rel2.cel hlt hy
    have edd : ds[i] = d := by rw [List.getElem?_eq_getElem hlt] at ed; exact Option.some.inj ed
    rw [List.drop_eq_getElem_cons hlt, edd, forGo] at q2
    split at q2
    · exact q2.elim
    rename_i ρ3 e3
    refine ⟨F3, ρ2, As2, d, ρ3, rel2.ext x3, rd, e3, fun σ4 As4 rel4 s4 _ _ => ?_⟩
    have x03 := x2.trans x3
    have n4 : ∀ i, ∀ a ∈ As4 i, H0 a = none := fun i a z => n2 i a (s4 i a z)
    -- F0, H0 stand for the entry; the settled part must keep F1: it is taken as the entry of the turn
    have bodyF : ∃ F0' : Hp, F0' = F3 := ⟨F3, rfl⟩
    refine ⟨F3, H0, ρ3, ⟨F3, As4, rel4, ⟨Same.refl F3, x03.h, rel4.fh, fun a o z w => by rw [z] at w; cases w⟩, n4⟩, ?_⟩
    have up : ∀ {ρ' σ' H''}, Sta X.K cm F3 H0 ρ' σ' H'' → ∃ F5 As5, Rel X.K cm F5 H'' σ' ρ' As5 ∧ Ext F0 H0 F5 H'' ∧ Same F1 F5 ∧ ∀ i, ∀ a ∈ As5 i, H0 a = none := fun {ρ' σ' H''} ⟨F5, As5, rel5, x5, n5⟩ =>
      ⟨F5, As5, rel5, ⟨x03.f.trans x5.f, x5.h, x5.fh, fun a o z w => by
        cases q : F3 a with
        | some u => exact x03.new a u q w
        | none => exact x5.new a o z q⟩, (s2.trans x3.f).trans x5.f, n5⟩
    cases hr : b ρ3 with
    | nx ρ' =>
      rw [hr] at q2
      exact fun σ' H'' s => by
        obtain ⟨F5, As5, rel5, x5, s5, n5⟩ := up s
        exact ⟨ρ', F5, As5, rel5, x5, s5, n5, q2⟩
    | cont ρ' =>
      rw [hr] at q2
      exact fun σ' H'' s => by
        obtain ⟨F5, As5, rel5, x5, s5, n5⟩ := up s
        exact ⟨ρ', F5, As5, rel5, x5, s5, n5, q2⟩
    | brk ρ' =>
      rw [hr] at q2
      exact fun σ' H'' s => by
        obtain ⟨F5, As5, rel5, x5, s5, n5⟩ := up s
        exact q2 σ' H'' ⟨F5, As5, rel5, x5, n5⟩
    | ret sv =>
      rw [hr] at q2
      exact fun v F' H'' A x5 r nd nA => q2 v F' H'' A ⟨x03.f.trans x5.f, x5.h, x5.fh, fun a o z w => by
        cases q : F3 a with
        | some u => exact x03.new a u q w
        | none => exact x5.new a o z q⟩ r nd nA
    | exc nm fs xs =>
      rw [hr] at q2
      exact fun σ' => by
        obtain ⟨z1, z2⟩ := q2 σ'
        have lift : ∀ {F' H''}, Ext F3 H0 F' H'' → Ext F0 H0 F' H'' := fun {F' H''} x5 => ⟨x03.f.trans x5.f, x5.h, x5.fh, fun a o z w => by
          cases q : F3 a with
          | some u => exact x03.new a u q w
          | none => exact x5.new a o z q⟩
        exact ⟨fun hn F' H'' x5 => z1 hn F' H'' (lift x5), fun hn F' H'' d vs x5 => z2 hn F' H'' d vs (lift x5)⟩
    | bad =>
      rw [hr] at q2
      exact q2.elim
  · have ei : i = ds.length := by omega
    subst ei
    rw [List.drop_length, forGo] at q2
    exact .inl ⟨hJ.stop _ F2 H2 s2 rel2.fh rel2.cel (Nat.le_refl _), q2 σ2 H2 ⟨F2, As2, rel2, x2, n2⟩⟩
def whileS (t : Rho → Option Bool) (b : Rho → Res) : Nat → Rho → Res
  | 0, _ => .bad
  | n + 1, ρ => match t ρ with
    | none => .bad
    | some false => .nx ρ
    | some true => match b ρ with
      | .nx ρ' => whileS t b n ρ'
      | .cont ρ' => whileS t b n ρ'
      | .brk ρ' => .nx ρ'
      | r => r
theorem p_while (N : Nat) {tx : Expr} {body : List Stmt} (hp : PassesOwn (model X.prog X.w) X.A X.env X.xe) (ht : PT X tx (ofT X.K cm t)) (hb : PSs X body (ofS X.K cm W b)) : PS X (.While tx body [] pos) (ofS X.K cm W (whileS t b N)) := PS.imp (ps_while hp ht hb) fun D σ H ⟨F0, H0, ρ, s, q⟩ => by
  refine ⟨fun m σ2 H2 => ∃ ρ2, Sta X.K cm F0 H0 ρ2 σ2 H2 ∧ Post X.K cm W F0 H0 D (whileS t b m ρ2), ⟨N, ρ, s, q⟩, ?_⟩
  rintro m σ2 H2 ⟨ρ2, ⟨F, As, rel, x, n⟩, q2⟩
  cases m with
  | zero => exact q2.elim
  | succ m =>
    rw [whileS] at q2
    split at q2
    · exact q2.elim
    · rename_i e1
      exact ⟨F, ρ2, As, false, rel, e1, fun F1 H1 x1 => q2 _ _ (Sta.ext rel x n x1)⟩
    · rename_i e1
      refine ⟨F, ρ2, As, true, rel, e1, fun F1 H1 x1 => ⟨fun σ' H' => ∃ ρ2, Sta X.K cm F0 H0 ρ2 σ' H' ∧ Post X.K cm W F0 H0 D (whileS t b m ρ2), fun σ' H' z => ⟨m, Nat.lt_succ_self m, z⟩, F0, H0, ρ2, Sta.ext rel x n x1, ?_⟩⟩
      cases hr : b ρ2 with
      | nx ρ' => rw [hr] at q2; exact fun σ' H'' s => ⟨ρ', s, q2⟩
      | cont ρ' => rw [hr] at q2; exact fun σ' H'' s => ⟨ρ', s, q2⟩
      | brk ρ' => rw [hr] at q2; exact fun σ' H'' s => q2 σ' H'' s
      | ret sv => rw [hr] at q2; exact q2
      | exc nm fs xs => rw [hr] at q2; exact q2
      | bad => rw [hr] at q2; exact q2
end

/-! ### a def -/
def startR (n : Nat) (ds : List Dat) : Rho := ds.map (fun d => some (.fro d)) ++ List.replicate (n - ds.length) none
def fnS (n m : Nat) (b : Rho → Res) (ds : List Dat) : Option Out := if ds.length = m then match b (startR n ds) with
    | .ret sv => some (.ok sv)
    | .nx _ => some (.ok (.fro .non))
    | _ => none
  else none
theorem rel_start {K : PySem.W.Frag} {cm : CM} {F H : Hp} {N : List Str} {vs : List V} {ds : List Dat} (e : Same F H) (cl : Cells K cm F H) (r : Rs K cm F vs ds) : Rel K cm F H (L2.start N vs) (startR N.length ds) (fun _ => []) where
  len := by
    unfold L2.start startR
    rw [List.length_append, List.length_append, List.length_map, List.length_map, List.length_replicate, List.length_replicate, r.length]
  fh := e
  at_ := fun i sv h => by
    unfold startR at h
    unfold L2.start
    by_cases hi : i < ds.length
    · rw [List.getElem?_append_left (by rw [List.length_map]; exact hi), List.getElem?_map, List.getElem?_eq_getElem hi] at h
      cases h
      obtain ⟨v, h1, h2⟩ := r.get (List.getElem?_eq_getElem hi)
      refine ⟨v, ?_, .fro h2⟩
      rw [List.getElem?_append_left (by rw [List.length_map, r.length]; exact hi), List.getElem?_map, h1]
      rfl
    · rw [List.getElem?_append_right (by rw [List.length_map]; omega), List.getElem?_replicate] at h
      split at h <;> cases h
  nd := fun _ => .nil
  sep := fun _ _ _ a h => by simp at h
  own := fun _ a h => by simp at h
  cel := cl
  out := fun _ a h => by simp at h
section
variable {P : Program} {w : World} {K : PySem.W.Frag} {mg : Str → Option Value} {base : Heap} {cm : CM}
theorem fn_nox {x qual : Str} {st : Stmt} {f : Addr} {fd : FuncData} {N ps : List Str} {k : Nat} {b : Rho → Res} (F : L2.Fun K x qual st f fd) (S : FnScope N ps (defScope st))
    (hb : ∀ (cdv : Value) (A : Around) (outer : List Env) (s : Shared) (H : Hp) (E : XK) (W : L2.WX), Room k (A.deeper (envOfC qual (defScope st) s.heap.objs.size f cdv)) → PSs (cxOf (L2.CX P w) P w K mg base N qual (defScope st) f cdv A outer s H E).nox (defBody st) (ofS K cm W b)) :
    FnOk P w K mg base (L2.CX P w) (k + 1) f fd ps (spX K cm (fnS N.length ps.length b)) := by
  refine F.okX S (fun vs H Q E ⟨F, ds, o, e, cl, rs, hg, k⟩ => ?_) fun cdv A outer s H vs Q E hr ⟨F, ds, o, e, cl, rs, hg, k⟩ => ?_
  · unfold fnS at hg
    split at hg
    · rename_i c
      rw [rs.length, c]
    · cases hg
  · refine ⟨_, PSs.nox (hb cdv A outer s H E (fun _ _ _ _ => False) hr), F, H, startR N.length ds, ⟨F, _, rel_start e cl rs, Ext.refl e, fun _ a h => by simp at h⟩, ?_⟩
    unfold fnS at hg
    split at hg
    · split at hg
      · rename_i sv e1
        cases hg
        rw [e1]
        exact fun v F' H' A x r nd nA => k v F' H' A x r nd nA
      · rename_i ρ' e1
        cases hg
        rw [e1]
        rintro σ' H' ⟨F1, As, rel, x, n⟩
        exact k .non F1 H' [] x (.fro .non) .nil (by simp)
      · cases hg
    · cases hg
end
end
end Pq

namespace Pq
open PySem PySem.Spec PyProof.Rows L2
noncomputable section
section
variable {X : Cx} {cm : CM} {W : L2.WX} {a b e : Expr} {fa fb f : Rho → Option Dat} {pos : Pos}
/-! ### a[b] of a list, a tuple, a text, a dict -/
def rIxDk : R2 := fun x y H Q => ∃ q v, x = .ref q ∧ DGet H q y (some v) ∧ Q v H
theorem ix_dk (hu : X.A.units + 1 < cLine) : IxR X rIxDk := by
  intro value slice pins s σ H x y v u Q I rx ry ⟨q, w, ex, g, k⟩ hs
  subst ex
  cases rx
  exact tail_any (dict_typeIs I g) PySem.F.slot_dict_getitem.lookup (d_getItem hu I g ry fun w' s' I' r' => ⟨w, H, I', r', k⟩) hs
def subD' : Dat → Dat → Option Dat
  | .dct ks xs, k => (isK k).bind fun k => look ks xs k
  | d, k => ixD d k
theorem look_valV {K : PySem.W.Frag} {F : Hp} {k : Key} {x : Dat} : ∀ {kvs : List (Key × V)} {xs : List Dat}, Rs K cm F (kvs.map (·.2)) xs → look (kvs.map (·.1)) xs k = some x → ∃ v, valV kvs k = some v ∧ R K cm F v x
  | [], _, _, h => by simp [look] at h
  | p :: kvs, [], r, _ => by cases r
  | p :: kvs, x' :: xs, .cons r t, h => by
    rw [List.map_cons, look] at h
    by_cases hk : p.1 = k
    · rw [if_pos hk] at h
      cases h
      exact ⟨p.2, valV_pos hk, r⟩
    · rw [if_neg hk] at h
      obtain ⟨v, h1, h2⟩ := look_valV t h
      exact ⟨v, by rw [valV_neg hk]; exact h1, h2⟩
theorem od_sub' : OpD X cm (fun x y H Q => rIx X.K x y H Q ∨ rIxDk x y H Q) subD' := fun F H x y a b d Q e r1 r2 hg k => by
  unfold subD' at hg
  split at hg
  · obtain ⟨key, e1, hg⟩ := bind_some hg
    obtain ⟨p, kvs, rfl, g, ek, z⟩ := r1.dct_inv
    rw [← ek] at hg
    obtain ⟨v, h1, h2⟩ := look_valV z hg
    have ev := isK_V r2 e1
    subst ev
    exact .inr ⟨p, v, rfl, .inl ⟨kvs, key, same_rd e g, rfl, h1.symm⟩, k v F H (Ext.refl e) h2⟩
  · exact .inl (od_ix F H x y _ _ d Q e r1 r2 hg k)
theorem e_sub' (hu : X.A.units + 1 < cLine) (ha : PE X a (ofE X.K cm fa)) (hb : PE X b (ofE X.K cm fb)) (hs : PlainIx b := by exact fun _ _ => rfl) : PE X (.Subscript a b pos) (ofE X.K cm (bin subD' fa fb)) := PE.imp (pe_ix (ix_seq.or (ix_dk hu)) ha hb hs) (bin_of od_sub')
/-! ### a list or a tuple, walked -/
def itS (f : Rho → Option Dat) : Rho → Option (List Dat) := fun ρ => (f ρ).bind fun
  | .lst xs => some xs
  | .scr xs => some xs
  | .tup xs => some xs
  | _ => none
theorem i_seq {tg : Expr} (ha : PE X a (ofE X.K cm fa)) : PI X tg a (ofIS X.K cm (itS fa)) := ⟨fun pins s σ H Q I ⟨F, ρ, As, ds, rel, hf, q⟩ => by
  obtain ⟨d, e1, hf⟩ := bind_some hf
  cases d with
  | lst xs => exact (i_list (tg := tg) ha).run pins s σ H Q I ⟨F, ρ, As, ds, rel, by unfold itL; rw [e1]; exact hf, q⟩
  | scr xs => exact (i_list (tg := tg) ha).run pins s σ H Q I ⟨F, ρ, As, ds, rel, by unfold itL; rw [e1]; exact hf, q⟩
  | tup xs => exact (i_tup (tg := tg) ha).run pins s σ H Q I ⟨F, ρ, As, ds, rel, by unfold itT; rw [e1]; exact hf, q⟩
  | _ => cases hf⟩
/-! ### name[k].append(e) -/
theorem RO.tp_inv {K : PySem.W.Frag} {F H : Hp} {v : V} {xs : List SV} {A : List Addr} (h : RO K cm F H v (.tp xs) A) : ∃ a vs B, v = .ref a ∧ A = a :: B ∧ F a = none ∧ H a = some (.tup vs) ∧ ROs K cm F H vs xs B := by
  cases h with
  | tp n h r => exact ⟨_, _, _, rfl, rfl, n, h, r⟩
theorem ROs.at_ {K : PySem.W.Frag} {F H : Hp} {x : SV} : ∀ {vs : List V} {xs : List SV} {A : List Addr} {k : Nat}, ROs K cm F H vs xs A → xs[k]? = some x → A.Nodup → ∃ v B, vs[k]? = some v ∧ RO K cm F H v x B ∧ (∀ b ∈ B, b ∈ A) ∧ B.Nodup ∧ ∀ (F1 H1 : Hp) (b : Addr) (o : HO) (x' : SV), Ext F H F1 H1 → b ∈ B → RO K cm F1 (upd H1 b o) v x' B → ROs K cm F1 (upd H1 b o) vs (xs.set k x') A
  | _, _, _, 0, .cons (A := A) (B := B) r t, e, nd => by
    simp at e
    subst e
    rw [List.nodup_append] at nd
    exact ⟨_, A, rfl, r, fun b h => List.mem_append_left _ h, nd.1, fun F1 H1 b o x' x1 hb r' => .cons r' ((t.ext x1).out fun z => nd.2.2 b hb b z rfl)⟩
  | _, _, _, k + 1, .cons (A := A) (B := B) r t, e, nd => by
    rw [List.nodup_append] at nd
    obtain ⟨v, C, h1, h2, h3, h4, h5⟩ := ROs.at_ (k := k) t (by simpa using e) nd.2.1
    exact ⟨v, C, by simpa using h1, h2, fun b h => List.mem_append_right _ (h3 b h), h4, fun F1 H1 b o x' x1 hb r' => .cons ((r.ext x1).out fun z => nd.2.2 b z b (h3 b hb) rfl) (h5 F1 H1 b o x' x1 hb r')⟩
  | _, _, _, _, .nil, e, _ => by simp at e
def putAt (sv : SV) (k : Nat) (x : SV) : Option SV := match sv with
  | .tp xs => some (.tp (xs.set k x))
  | .ol xs => some (.ol (xs.set k x))
  | _ => none
def getAt (sv : SV) (k : Nat) : Option SV := match sv with
  | .tp xs => xs[k]?
  | .ol xs => xs[k]?
  | _ => none
theorem RO.at_ {K : PySem.W.Frag} {F H : Hp} {v : V} {sv x : SV} {A : List Addr} {k : Nat} (r : RO K cm F H v sv A) (h : getAt sv k = some x) (nd : A.Nodup) : ∃ a w B, v = .ref a ∧ ((∃ vs, H a = some (.tup vs) ∧ vs[k]? = some w) ∨ ∃ vs, H a = some (.lst vs) ∧ vs[k]? = some w) ∧ RO K cm F H w x B ∧ (∀ b ∈ B, b ∈ A) ∧ B.Nodup ∧
    ∀ (F1 H1 : Hp) (b : Addr) (o : HO) (x' : SV), Ext F H F1 H1 → b ∈ B → RO K cm F1 (upd H1 b o) w x' B → ∃ sv', putAt sv k x' = some sv' ∧ RO K cm F1 (upd H1 b o) v sv' A := by
  unfold getAt at h
  split at h
  · obtain ⟨a, vs, B, rfl, rfl, n, hH, rs⟩ := r.tp_inv
    rw [List.nodup_cons] at nd
    obtain ⟨w, C, h1, h2, h3, h4, h5⟩ := rs.at_ h nd.2
    refine ⟨a, w, C, rfl, .inl ⟨vs, hH, h1⟩, h2, fun b z => List.mem_cons_of_mem _ (h3 b z), h4, fun F1 H1 b o x' x1 hb r' => ⟨_, rfl, .tp (ext_none x1 hH n) ?_ (h5 F1 H1 b o x' x1 hb r')⟩⟩
    rw [upd_ne (fun z => nd.1 (by rw [z]; exact h3 b hb))]
    exact x1.h _ _ hH
  · obtain ⟨a, vs, B, rfl, rfl, n, hH, rs⟩ := r.ol_inv
    rw [List.nodup_cons] at nd
    obtain ⟨w, C, h1, h2, h3, h4, h5⟩ := rs.at_ h nd.2
    refine ⟨a, w, C, rfl, .inr ⟨vs, hH, h1⟩, h2, fun b z => List.mem_cons_of_mem _ (h3 b z), h4, fun F1 H1 b o x' x1 hb r' => ⟨_, rfl, .ol (ext_none x1 hH n) ?_ (h5 F1 H1 b o x' x1 hb r')⟩⟩
    rw [upd_ne (fun z => nd.1 (by rw [z]; exact h3 b hb))]
    exact x1.h _ _ hH
  · cases h
def pushAt (i k : Nat) (f : Rho → Option Dat) : Rho → Res := fun ρ => match f ρ with
  | some d => match ρ[i]? with
    | some (some sv) => match getAt sv k with
      | some (.ol xs) => @ite _ (xs.length < sizeLine) (Classical.propDecidable _) (match putAt sv k (.ol (xs ++ [.fro d])) with
        | some sv' => .nx (ρ.set i (some sv'))
        | none => .bad) .bad
      | _ => .bad
    | _ => .bad
  | none => .bad
theorem p_pushAt (i k : Nat) {x : Str} {px pc pk apos cpos : Pos} {jk : Nat} (hv : PE X (.Name x px) (tVar i)) (ha : PE X a (ofE X.K cm f)) (hix : PlainIx (.Constant (.int (k : Int)) jk pc) := by exact fun _ _ => rfl)
    (hs : swapsWith (.Call (.Attribute (.Subscript (.Name x px) (.Constant (.int (k : Int)) jk pc) pk) "append" apos) [a] [] cpos) none pos.line X.env = pure false := by rfl)
    (hbase : attributeBase (.Subscript (.Name x px) (.Constant (.int (k : Int)) jk pc) pk) "append" X.env (eval (.Subscript (.Name x px) (.Constant (.int (k : Int)) jk pc) pk) X.env) = eval (.Subscript (.Name x px) (.Constant (.int (k : Int)) jk pc) pk) X.env := by rfl)
    (hfew : ((backTo cpos (starEach [a] X.env)).all (fun x => !x.1) && (backToKw cpos (keywordEach [] X.env)).all (fun x => x.1.isSome) && decide ([a].length + ([] : List Keyword).length + (if ([] : List Keyword).isEmpty then 0 else 1) < 30)) = true := by rfl)
    (hline : (apos.endLine == cpos.line) = true := by rfl) (hst : starEach [a] X.env = (false, eval a X.env) :: starEach [] X.env := by rfl) (hplain : (backTo cpos (starEach [] X.env)).any (·.1) = false := by rfl) :
    PS X (.Expr (.Call (.Attribute (.Subscript (.Name x px) (.Constant (.int (k : Int)) jk pc) pk) "append" apos) [a] [] cpos) pos) (ofS X.K cm W (pushAt i k f)) :=
  PS.imp (ps_expr (pe_bm PySem.F.plainAttrs_list PySem.F.slot_list_append PySem.F.type_list_append mt_append (pe_ix ix_seq hv pe_int hix) (pa_cons ha pa_nil hst) hbase hfew hline hst hplain) hs) fun D σ H ⟨F0, H0, ρ, ⟨F, As, rel, x, n⟩, q⟩ => by
    unfold pushAt at q
    split at q
    case h_2 => exact q.elim
    rename_i d e1
    split at q
    case h_2 => exact q.elim
    rename_i sv e2
    split at q
    case h_2 => exact q.elim
    rename_i xs e3
    split at q
    case isFalse => exact q.elim
    rename_i hz
    obtain ⟨v, h1, r1⟩ := rel.at_ i _ e2
    obtain ⟨p, w, B, rfl, hp, rw1, sub, ndB, put⟩ := r1.at_ e3 (rel.nd i)
    obtain ⟨l, vs, C, rfl, eB, nF, hH, rs⟩ := rw1.ol_inv
    have fin : tyV X.K "list" (.ref l) H ∧ ofE X.K cm f σ H fun y H2 => rAppend (.ref l) [y] H2 fun _ H3 => D.nx σ H3 := by
      refine ⟨.inl ⟨rfl, vs, .inl (.inl hH)⟩, F, ρ, As, d, rel, e1, fun w F1 H1 x1 r2 => ?_⟩
      have hH1 := x1.h _ _ hH
      refine ⟨l, vs, w, rfl, rfl, hH1, by rw [rs.length]; exact hz, ?_⟩
      have lB : l ∈ B := by rw [eB]; exact List.mem_cons_self
      have lA := sub l lB
      have hF1 := ext_none x1 hH nF
      obtain ⟨sv', ep, rp⟩ := put F1 H1 l (.lst (vs ++ [w])) (.ol (xs ++ [.fro d])) x1 lB (by
        rw [eB]
        refine .ol hF1 upd_same (ROs.snoc r2 ((rs.ext x1).out ?_))
        rw [eB] at ndB
        exact (List.nodup_cons.mp ndB).1)
      rw [ep] at q
      exact q _ _ ⟨F1, As, (rel.ext x1).upd lA e2 h1 rp, ext_upd (x.trans x1) hF1 (n i l lA), n⟩
    rcases hp with ⟨us, g1, g2⟩ | ⟨us, g1, g2⟩
    · exact ⟨.ref p, h1, .inr (.inl ⟨p, us, k, _, rfl, rfl, .inl (.inl g1), atI_nat g2, fin⟩)⟩
    · exact ⟨.ref p, h1, .inl ⟨p, us, k, _, rfl, rfl, .inl (.inl g1), atI_nat g2, fin⟩⟩
end
theorem fn_x {P : Program} {w : World} {K : PySem.W.Frag} {mg : Str → Option Value} {base : Heap} {cm : CM} {x qual : Str} {st : Stmt} {f : Addr} {fd : FuncData} {N ps : List Str} {k : Nat} {g : List Dat → Option Out} {b : Rho → Res} (hg : g = fnS N.length ps.length b) (F : L2.Fun K x qual st f fd) (S : FnScope N ps (defScope st))
    (hb : ∀ (cdv : Value) (A : Around) (outer : List Env) (s : Shared) (H : Hp) (E : XK) (W : L2.WX), Room k (A.deeper (envOfC qual (defScope st) s.heap.objs.size f cdv)) → PSs (cxOf (L2.CX P w) P w K mg base N qual (defScope st) f cdv A outer s H E).nox (defBody st) (ofS K cm W b)) :
    FnOk P w K mg base (L2.CX P w) (k + 1) f fd ps (spX K cm g) := by
  subst hg
  exact fn_nox F S hb
/-! ### a law's def -/
structure Dfn (K : PySem.W.Frag) (mg : Str → Option Value) (x qual : Str) (st : Stmt) (f : Addr) (fd : FuncData) (ps : List Str) : Prop where
  F : L2.Fun K x qual st f fd
  g : mg x = some (.ref f)
  b : Binds K fd ps []
theorem ints_rs {K : PySem.W.Frag} {cm : CM} {F : Hp} : ∀ ns : List Int, Rs K cm F (ns.map V.int) (ns.map Dat.int)
  | [] => .nil
  | n :: ns => .cons (.int n) (ints_rs ns)
/-- a store without cells -/
theorem Cells.zero {K : PySem.W.Frag} {c : Str → Addr} {F H : Hp} : Cells K ⟨c, fun _ => none, []⟩ F H := ⟨fun k c h => by simp at h, fun j k a h => by simp at h, fun k a h => by simp at h⟩
theorem law_in {K : PySem.W.Frag} {c : Str → Addr} {g : List Dat → Option Out} (hg : ∀ ns : List Int, ns.length ≤ 63 → g [.scr (ns.map Dat.int)] = some (.ok (.fro (.bl true)))) {H : Hp} {a : Addr} {ns : List Int} {E : XK} (hl : ns.length ≤ 63) (hS : SqL K H a (ns.map V.int)) : spX K ⟨c, fun _ => none, []⟩ g [.ref a] H (fun v _ => v = .bl true) E :=
  ⟨H, _, _, Same.refl H, Cells.zero, .cons (.scr hS (ints_rs ns)) .nil, hg ns hl, fun v F' H' A x r nd n => by
    cases r with
    | fro q => exact q.bl_inv⟩
theorem law_out {P : Program} {w : World} {H : Hp} {s : Shared} {e : Value} {s' : Shared} (h : L2.CX P w [] H s (fun _ _ _ => False) e s') : False := by
  obtain ⟨_, _, _, _, _, _, _, _, _, _, _, _, z⟩ := h
  exact z
end
end Pq

namespace Pq
open PySem PySem.Spec PyProof.Rows L2
noncomputable section
section
variable {X : Cx} {cm : CM} {W : L2.WX} {a b e : Expr} {fa fb f : Rho → Option Dat} {pos : Pos}
/-! ### a + b, a list of one's own -/
def addOD (x y : Dat) : Option SV := match x, y with
  | .lst xs, .lst ys => @ite _ (xs.length + ys.length ≤ sizeLine) (Classical.propDecidable _) (some (.ol ((xs ++ ys).map SV.fro))) none
  | _, _ => none
def addO (fa fb : Rho → Option Dat) : Rho → Option SV := fun ρ => (fa ρ).bind fun x => (fb ρ).bind fun y => addOD x y
theorem o_add (ha : PE X a (ofE X.K cm fa)) (hb : PE X b (ofE X.K cm fb)) : PE X (.BinOp a .Add b pos) (ofO X.K cm (addO fa fb)) := PE.imp (pe_op op_catR ha hb) fun σ H Q ⟨F, ρ, As, sv, rel, hf, k⟩ => by
  obtain ⟨x, e1, hf⟩ := bind_some hf
  obtain ⟨y, e2, hf⟩ := bind_some hf
  refine ⟨F, ρ, As, x, rel, e1, fun v F1 H1 x1 r1 => ⟨F1, ρ, As, y, rel.ext x1, e2, fun u F2 H2 x2 r2 => ?_⟩⟩
  unfold addOD at hf
  split at hf
  · obtain ⟨c, rfl⟩ := ite_some hf
    obtain ⟨l, vs, rfl, g1, q1⟩ := r1.lst_inv
    obtain ⟨b, ws, rfl, g2, q2⟩ := r2.lst_inv
    exact ⟨l, b, vs, ws, rfl, rfl, same_rd (x2.f.trans x2.fh) g1, same_rd x2.fh g2, by rw [q1.length, q2.length]; exact c, own_lst x2.fh ((q1.mono x2.f).append q2) fun v F4 H4 A x4 r4 nd n => k v F4 H4 A ((x1.trans x2).trans x4) r4 nd fun a z => (x1.trans x2).h.free (n a z)⟩
  · cases hf
/-! ### name[k].clear() -/
def isFro : SV → Bool
  | .fro _ => true
  | _ => false
theorem ros_all {K : PySem.W.Frag} {F H : Hp} : ∀ {vs : List V} {xs : List SV} {A : List Addr}, ROs K cm F H vs xs A → xs.all isFro = true → A = []
  | _, _, _, .nil, _ => rfl
  | _, _, _, .cons r t, h => by
    rw [List.all_cons, Bool.and_eq_true] at h
    rw [ros_all t h.2]
    cases r with
    | fro _ => rfl
    | _ => cases h.1
def clearAt (i k : Nat) : Rho → Res := fun ρ => match ρ[i]? with
  | some (some sv) => match getAt sv k with
    | some (.ol xs) => if xs.all isFro = true then match putAt sv k (.ol []) with
      | some sv' => .nx (ρ.set i (some sv'))
      | none => .bad
      else .bad
    | _ => .bad
  | _ => .bad
theorem p_clearAt (i k : Nat) {x : Str} {px pc pk apos cpos : Pos} {jk : Nat} (hv : PE X (.Name x px) (tVar i)) (hix : PlainIx (.Constant (.int (k : Int)) jk pc) := by exact fun _ _ => rfl)
    (hs : swapsWith (.Call (.Attribute (.Subscript (.Name x px) (.Constant (.int (k : Int)) jk pc) pk) "clear" apos) [] [] cpos) none pos.line X.env = pure false := by rfl)
    (hbase : attributeBase (.Subscript (.Name x px) (.Constant (.int (k : Int)) jk pc) pk) "clear" X.env (eval (.Subscript (.Name x px) (.Constant (.int (k : Int)) jk pc) pk) X.env) = eval (.Subscript (.Name x px) (.Constant (.int (k : Int)) jk pc) pk) X.env := by rfl)
    (hline : (apos.endLine == cpos.line) = true := by rfl) :
    PS X (.Expr (.Call (.Attribute (.Subscript (.Name x px) (.Constant (.int (k : Int)) jk pc) pk) "clear" apos) [] [] cpos) pos) (ofS X.K cm W (clearAt i k)) :=
  PS.imp (ps_expr (pe_bm0 PySem.F.plainAttrs_list PySem.F.slot_list_clear PySem.F.type_list_clear mt_clear (pe_ix ix_seq hv pe_int hix) hbase hline) hs) fun D σ H ⟨F0, H0, ρ, ⟨F, As, rel, x, n⟩, q⟩ => by
    unfold clearAt at q
    split at q
    case h_2 => exact q.elim
    rename_i sv e2
    split at q
    case h_2 => exact q.elim
    rename_i xs e3
    split at q
    case isFalse => exact q.elim
    rename_i hall
    obtain ⟨v, h1, r1⟩ := rel.at_ i _ e2
    obtain ⟨p, w, B, rfl, hp, rw1, sub, ndB, put⟩ := r1.at_ e3 (rel.nd i)
    obtain ⟨l, vs, C, rfl, eB, nF, hH, rs⟩ := rw1.ol_inv
    have eC := ros_all rs hall
    subst eC
    have lB : l ∈ B := by rw [eB]; exact List.mem_cons_self
    have lA := sub l lB
    obtain ⟨sv', ep, rp⟩ := put F H l (.lst []) (.ol []) (Ext.refl rel.fh) lB (by rw [eB]; exact .ol nF upd_same .nil)
    rw [ep] at q
    have fin : tyV X.K "list" (.ref l) H ∧ rClear (.ref l) [] H fun _ H3 => D.nx σ H3 :=
      ⟨.inl ⟨rfl, vs, .inl (.inl hH)⟩, l, vs, rfl, rfl, hH, q _ _ ⟨F, As, rel.upd lA e2 h1 rp, ext_upd x nF (n i l lA), n⟩⟩
    rcases hp with ⟨us, g1, g2⟩ | ⟨us, g1, g2⟩
    · exact ⟨.ref p, h1, .inr (.inl ⟨p, us, k, _, rfl, rfl, .inl (.inl g1), atI_nat g2, fin⟩)⟩
    · exact ⟨.ref p, h1, .inl ⟨p, us, k, _, rfl, rfl, .inl (.inl g1), atI_nat g2, fin⟩⟩
/-! ### sep.join(xs) -/
def txsOf : List Dat → Option (List Str)
  | [] => some []
  | .str x :: xs => (txsOf xs).bind fun ys => some (x :: ys)
  | _ :: _ => none
theorem rs_txs {K : PySem.W.Frag} {F : Hp} : ∀ {vs : List V} {xs : List Dat} {ys : List Str}, Rs K cm F vs xs → txsOf xs = some ys → vs = ys.map V.str
  | _, _, _, .nil, h => by cases h; rfl
  | _, _, _, .cons r t, h => by
    unfold txsOf at h
    split at h
    · rename_i h'; cases h'
    · rename_i h'
      cases h'
      obtain ⟨ys', e, h⟩ := bind_some h
      cases h
      rw [r.str_inv, rs_txs t e]
      rfl
    · cases h
def joinD : Dat → Dat → Option Dat
  | .str a, .lst xs => (txsOf xs).bind fun ys => @ite _ ((ys.map (·.length)).sum + ys.length * a.length ≤ 16777216) (Classical.propDecidable _) (some (.str (Txt.join a ys))) none
  | _, _ => none
theorem e_join {apos : Pos} (ha : PE X a (ofE X.K cm fa)) (hb : PE X b (ofE X.K cm fb)) (hs : starEach [b] X.env = [(false, eval b X.env)] := by rfl) (hbase : attributeBase a "join" X.env (eval a X.env) = eval a X.env := by rfl) (hline : (apos.endLine == pos.line) = true := by rfl) :
    PE X (.Call (.Attribute a "join" apos) [b] [] pos) (ofE X.K cm (bin joinD fa fb)) := PE.imp (pe_join ha hb hs hbase hline) fun σ H Q ⟨F, ρ, As, d, rel, hf, k⟩ => by
  obtain ⟨x, e1, hf⟩ := bind_some hf
  obtain ⟨y, e2, hf⟩ := bind_some hf
  refine ⟨F, ρ, As, x, rel, e1, fun v F1 H1 x1 r1 => ?_⟩
  unfold joinD at hf
  split at hf
  · obtain ⟨ys, e3, hf⟩ := bind_some hf
    obtain ⟨c, rfl⟩ := ite_some hf
    refine ⟨⟨_, r1.str_inv⟩, F1, ρ, As, _, rel.ext x1, e2, fun u F2 H2 x2 r2 => ?_⟩
    obtain ⟨p, vs, rfl, g, q⟩ := r2.lst_inv
    have := rs_txs q e3
    subst this
    exact ⟨_, p, ys, r1.str_inv, rfl, .inl (.inl (same_rd x2.fh g)), c, k _ F2 H2 (x1.trans x2) (.str _)⟩
  · cases hf
end
end
end Pq

namespace Pq
open PySem PySem.Spec PyProof.Rows L2
noncomputable section
/-! ### places within what is one's own -/
inductive Stp where
  | ix (k : Nat) | fld (c f : Str)
def idxF (f : Str) : List Str → Option Nat
  | [] => none
  | g :: r => if f = g then some 0 else (idxF f r).map fun n => n + 1
def getS (sv : SV) (st : Stp) : Option SV := match sv, st with
  | .tp xs, .ix k => xs[k]?
  | .ol xs, .ix k => xs[k]?
  | .oo _ c fs xs, .fld c' f => if c = c' then (idxF f fs).bind fun j => xs[j]? else none
  | _, _ => none
def putS (sv : SV) (st : Stp) (x : SV) : Option SV := match sv, st with
  | .tp xs, .ix k => some (.tp (xs.set k x))
  | .ol xs, .ix k => some (.ol (xs.set k x))
  | .oo a c fs xs, .fld c' f => if c = c' then (idxF f fs).bind fun j => some (.oo a c fs (xs.set j x)) else none
  | _, _ => none
def getP (sv : SV) : List Stp → Option SV
  | [] => some sv
  | st :: p => (getS sv st).bind fun x => getP x p
def putP (sv : SV) : List Stp → SV → Option SV
  | [], x => some x
  | st :: p, x => (getS sv st).bind fun y => (putP y p x).bind fun z => putS sv st z
theorem getP_snoc : ∀ (p : List Stp) (sv : SV) (st : Stp), getP sv (p ++ [st]) = (getP sv p).bind fun x => getS x st
  | [], sv, st => by
    show (getS sv st).bind (fun x => some x) = getS sv st
    cases getS sv st <;> rfl
  | q :: p, sv, st => by
    show (getS sv q).bind (fun x => getP x (p ++ [st])) = ((getS sv q).bind fun x => getP x p).bind _
    cases getS sv q with
    | none => rfl
    | some y => exact getP_snoc p y st
theorem putP_snoc : ∀ (p : List Stp) (sv : SV) (st : Stp) (x y z : SV), getP sv p = some y → putS y st x = some z → putP sv (p ++ [st]) x = (getS y st).bind fun _ => putP sv p z
  | [], sv, st, x, y, z, h, hz => by
    cases h
    show (getS sv st).bind (fun y => (some x).bind fun z => putS sv st z) = _
    cases getS sv st with
    | none => rfl
    | some w =>
      show putS sv st x = some z
      exact hz
  | q :: p, sv, st, x, y, z, h, hz => by
    show (getS sv q).bind (fun y => (putP y (p ++ [st]) x).bind fun z => putS sv q z) = (getS y st).bind fun _ => (getS sv q).bind fun y => (putP y p z).bind fun z => putS sv q z
    have h' : (getS sv q).bind (fun x => getP x p) = some y := h
    cases e : getS sv q with
    | none =>
      cases getS y st <;> rfl
    | some w =>
      rw [e] at h'
      have ih := putP_snoc p w st x y z h' hz
      show (putP w (p ++ [st]) x).bind (fun z => putS sv q z) = (getS y st).bind fun _ => (putP w p z).bind fun z => putS sv q z
      rw [ih]
      cases getS y st <;> rfl
section
variable {K : PySem.W.Frag} {cm : CM} {F H : Hp}
theorem RO.oo_inv {v : V} {a : Addr} {c : Str} {fs : List Str} {xs : List SV} {A : List Addr} (h : RO K cm F H v (.oo a c fs xs) A) : ∃ dx fvs B, v = .ref a ∧ A = a :: B ∧ F a = none ∧ H a = some (.ins (cm c) dx fvs) ∧ fvs.map (·.1) = fs ∧ ROs K cm F H (fvs.map (·.2)) xs B := by
  cases h with
  | oo n h k r => exact ⟨_, _, _, rfl, rfl, n, h, k, r⟩
theorem idx_lookup {f : Str} {w : V} : ∀ {fvs : List (Str × V)} {j : Nat}, idxF f (fvs.map (·.1)) = some j → (fvs.map (·.2))[j]? = some w → fvs.lookup f = some w
  | [], _, h, _ => by cases h
  | (g, x) :: r, j, h, hw => by
    rw [List.map_cons, idxF] at h
    by_cases e : f = g
    · rw [if_pos e] at h
      cases h
      cases hw
      rw [List.lookup_cons, beq_iff_eq.mpr e]
    · rw [if_neg e] at h
      rw [List.lookup_cons, beq_eq_false_iff_ne.mpr e]
      cases e2 : idxF f (r.map (·.1)) with
      | none => rw [e2] at h; cases h
      | some n =>
        rw [e2] at h
        cases h
        exact idx_lookup e2 (by simpa using hw)
def HoldS (cm : CM) (H : Hp) (a : Addr) (w : V) : Stp → Prop
  | .ix k => (∃ vs, H a = some (.tup vs) ∧ vs[k]? = some w) ∨ ∃ vs, H a = some (.lst vs) ∧ vs[k]? = some w
  | .fld c f => ∃ dx fvs, H a = some (.ins (cm c) dx fvs) ∧ fvs.lookup f = some w
theorem RO.atS {v : V} {sv x : SV} {A : List Addr} {st : Stp} (r : RO K cm F H v sv A) (h : getS sv st = some x) (nd : A.Nodup) : ∃ a w B, v = .ref a ∧ HoldS cm H a w st ∧ RO K cm F H w x B ∧ (∀ b ∈ B, b ∈ A) ∧ B.Nodup ∧
    ∀ (F1 H1 : Hp) (b : Addr) (o : HO) (x' : SV), Ext F H F1 H1 → b ∈ B → RO K cm F1 (upd H1 b o) w x' B → ∃ sv', putS sv st x' = some sv' ∧ RO K cm F1 (upd H1 b o) v sv' A := by
  unfold getS at h
  split at h
  · rename_i ys kk
    obtain ⟨a, w, B, h1, h2, h3, h4, h5, h6⟩ := r.at_ (k := kk) (x := x) (show getAt _ kk = some x from h) nd
    refine ⟨a, w, B, h1, h2, h3, h4, h5, fun F1 H1 b o x' e hb r' => ?_⟩
    obtain ⟨sv', q1, q2⟩ := h6 F1 H1 b o x' e hb r'
    cases q1
    exact ⟨_, rfl, q2⟩
  · rename_i ys kk
    obtain ⟨a, w, B, h1, h2, h3, h4, h5, h6⟩ := r.at_ (k := kk) (x := x) (show getAt _ kk = some x from h) nd
    refine ⟨a, w, B, h1, h2, h3, h4, h5, fun F1 H1 b o x' e hb r' => ?_⟩
    obtain ⟨sv', q1, q2⟩ := h6 F1 H1 b o x' e hb r'
    cases q1
    exact ⟨_, rfl, q2⟩
  · rename_i a c fs xs c' f
    split at h
    · rename_i ec
      subst ec
      obtain ⟨j, e1, e2⟩ := bind_some h
      obtain ⟨dx, fvs, B, rfl, rfl, n, hH, hk, rs⟩ := r.oo_inv
      rw [List.nodup_cons] at nd
      obtain ⟨w, C, h1, h2, h3, h4, h5⟩ := rs.at_ e2 nd.2
      subst hk
      refine ⟨a, w, C, rfl, ⟨dx, fvs, hH, idx_lookup e1 h1⟩, h2, fun b z => List.mem_cons_of_mem _ (h3 b z), h4, fun F1 H1 b o x' e hb r' => ?_⟩
      refine ⟨.oo a c (fvs.map (·.1)) (xs.set j x'), ?_, .oo (dx := dx) (ext_none e hH n) ?_ rfl (h5 F1 H1 b o x' e hb r')⟩
      · show (if c = c then (idxF f (fvs.map (·.1))).bind fun j => some (SV.oo a c (fvs.map (·.1)) (xs.set j x')) else none) = _
        rw [if_pos rfl, e1]
        rfl
      · rw [upd_ne (fun z => nd.1 (by rw [z]; exact h3 b hb))]
        exact e.h _ _ hH
    · cases h
  · cases h
structure Lens (K : PySem.W.Frag) (cm : CM) (F H : Hp) (sv : SV) (v0 : V) (A : List Addr) (p : List Stp) (v : V) (x : SV) (B : List Addr) : Prop where
  ro : RO K cm F H v x B
  sub : ∀ b ∈ B, b ∈ A
  nd : B.Nodup
  put : ∀ (F1 H1 : Hp) (b : Addr) (o : HO) (x' : SV), Ext F H F1 H1 → b ∈ B → RO K cm F1 (upd H1 b o) v x' B → ∃ sv', putP sv p x' = some sv' ∧ RO K cm F1 (upd H1 b o) v0 sv' A
def tPl (K : PySem.W.Frag) (cm : CM) (i : Nat) (p : List Stp) : TE := fun σ H Q => ∃ F ρ As sv v0 x, Rel K cm F H σ ρ As ∧ ρ[i]? = some (some sv) ∧ σ[i]? = some (some v0) ∧ getP sv p = some x ∧ ∀ v B, Lens K cm F H sv v0 (As i) p v x B → Q v H
end
section
variable {X : Cx} {cm : CM} {W : L2.WX} {a b e : Expr} {es : List Expr} {fa fb f : Rho → Option Dat} {fs : Rho → Option (List Dat)} {pos : Pos}
theorem pl_name (i : Nat) (h : PE X e (tVar i)) : PE X e (tPl X.K cm i []) := PE.imp h fun σ H Q ⟨F, ρ, As, sv, v0, x, rel, e1, e2, e3, k⟩ => by
  cases e3
  obtain ⟨v, h1, h2⟩ := rel.at_ i sv e1
  rw [e2] at h1
  cases h1
  exact ⟨v0, e2, k v0 (As i) ⟨h2, fun _ h => h, rel.nd i, fun F1 H1 b o x' _ _ r => ⟨x', rfl, r⟩⟩⟩
theorem lens_snoc {K : PySem.W.Frag} {F H : Hp} {sv x y : SV} {v0 v : V} {A B : List Addr} {p : List Stp} {st : Stp} (hp : getP sv p = some x) (l : Lens K cm F H sv v0 A p v x B) (h : getS x st = some y) : ∃ a w C, v = .ref a ∧ HoldS cm H a w st ∧ Lens K cm F H sv v0 A (p ++ [st]) w y C := by
  obtain ⟨a, w, C, rfl, h1, h2, h3, h4, h5⟩ := l.ro.atS h l.nd
  refine ⟨a, w, C, rfl, h1, h2, fun b z => l.sub b (h3 b z), h4, fun F1 H1 b o x' e hb r => ?_⟩
  obtain ⟨z, q1, q2⟩ := h5 F1 H1 b o x' e hb r
  obtain ⟨sv', q3, q4⟩ := l.put F1 H1 b o z e (h3 b hb) q2
  refine ⟨sv', ?_, q4⟩
  rw [putP_snoc p sv st x' x z hp q1, h]
  exact q3
theorem pl_ix {i k : Nat} {p q : List Stp} {jk : Nat} {pc pk : Pos} (hq : p ++ [.ix k] = q) (hp : PE X e (tPl X.K cm i p)) (hix : PlainIx (.Constant (.int (k : Int)) jk pc) := by exact fun _ _ => rfl) : PE X (.Subscript e (.Constant (.int (k : Int)) jk pc) pk) (tPl X.K cm i q) := by
  subst hq
  refine PE.imp (pe_ix ix_seq hp pe_int hix) fun σ H Q ⟨F, ρ, As, sv, v0, x, rel, e1, e2, e3, kk⟩ => ?_
  rw [getP_snoc] at e3
  obtain ⟨y, e3, e4⟩ := bind_some e3
  refine ⟨F, ρ, As, sv, v0, y, rel, e1, e2, e3, fun v B l => ?_⟩
  obtain ⟨a, w, C, rfl, hh, l'⟩ := lens_snoc e3 l e4
  rcases hh with ⟨us, g1, g2⟩ | ⟨us, g1, g2⟩
  · exact .inr (.inl ⟨a, us, k, w, rfl, rfl, .inl (.inl g1), atI_nat g2, kk w C l'⟩)
  · exact .inl ⟨a, us, k, w, rfl, rfl, .inl (.inl g1), atI_nat g2, kk w C l'⟩
theorem pl_fld {i : Nat} {p q : List Stp} {c g : Str} (hq : p ++ [.fld c g] = q) (hc : Cls X.K (cm c)) (hn : NoAttr X.K (cm c) g) (hp : PE X e (tPl X.K cm i p)) (hb : attributeBase e g X.env (eval e X.env) = eval e X.env := by rfl) : PE X (.Attribute e g pos) (tPl X.K cm i q) := by
  subst hq
  refine PE.imp (pe_fld hp hb) fun σ H Q ⟨F, ρ, As, sv, v0, x, rel, e1, e2, e3, kk⟩ => ?_
  rw [getP_snoc] at e3
  obtain ⟨y, e3, e4⟩ := bind_some e3
  refine ⟨F, ρ, As, sv, v0, y, rel, e1, e2, e3, fun v B l => ?_⟩
  obtain ⟨a, w, C, rfl, ⟨dx, fvs, g1, g2⟩, l'⟩ := lens_snoc e3 l e4
  exact ⟨a, _, dx, fvs, w, rfl, g1, hc, hn, g2, kk w C l'⟩
/-! place.append(e), place.clear(), place[i] = e -/
def pushP (i : Nat) (p : List Stp) (f : Rho → Option Dat) : Rho → Res := fun ρ => match f ρ with
  | some d => match ρ[i]? with
    | some (some sv) => match getP sv p with
      | some (.ol xs) => @ite _ (xs.length < sizeLine) (Classical.propDecidable _) (match putP sv p (.ol (xs ++ [.fro d])) with
        | some sv' => .nx (ρ.set i (some sv'))
        | none => .bad) .bad
      | _ => .bad
    | _ => .bad
  | none => .bad
theorem p_pushP (i : Nat) (p : List Stp) {apos cpos : Pos} (hp : PE X e (tPl X.K cm i p)) (ha : PE X a (ofE X.K cm f))
    (hs : swapsWith (.Call (.Attribute e "append" apos) [a] [] cpos) none pos.line X.env = pure false := by rfl)
    (hbase : attributeBase e "append" X.env (eval e X.env) = eval e X.env := by rfl)
    (hfew : ((backTo cpos (starEach [a] X.env)).all (fun x => !x.1) && (backToKw cpos (keywordEach [] X.env)).all (fun x => x.1.isSome) && decide ([a].length + ([] : List Keyword).length + (if ([] : List Keyword).isEmpty then 0 else 1) < 30)) = true := by rfl)
    (hline : (apos.endLine == cpos.line) = true := by rfl) (hst : starEach [a] X.env = (false, eval a X.env) :: starEach [] X.env := by rfl) (hplain : (backTo cpos (starEach [] X.env)).any (·.1) = false := by rfl) :
    PS X (.Expr (.Call (.Attribute e "append" apos) [a] [] cpos) pos) (ofS X.K cm W (pushP i p f)) :=
  PS.imp (ps_expr (pe_bm PySem.F.plainAttrs_list PySem.F.slot_list_append PySem.F.type_list_append mt_append hp (pa_cons ha pa_nil hst) hbase hfew hline hst hplain) hs) fun D σ H ⟨F0, H0, ρ, ⟨F, As, rel, x, n⟩, q⟩ => by
    unfold pushP at q
    split at q
    case h_2 => exact q.elim
    rename_i d e1
    split at q
    case h_2 => exact q.elim
    rename_i sv e2
    split at q
    case h_2 => exact q.elim
    rename_i xs e3
    split at q
    case isFalse => exact q.elim
    rename_i hz
    obtain ⟨v0, h1, r1⟩ := rel.at_ i _ e2
    refine ⟨F, ρ, As, sv, v0, _, rel, e2, h1, e3, fun v B l => ?_⟩
    obtain ⟨c, vs, C, rfl, eB, nF, hH, rs⟩ := l.ro.ol_inv
    refine ⟨.inl ⟨rfl, vs, .inl (.inl hH)⟩, F, ρ, As, d, rel, e1, fun w F1 H1 x1 r2 => ?_⟩
    have hH1 := x1.h _ _ hH
    refine ⟨c, vs, w, rfl, rfl, hH1, by rw [rs.length]; exact hz, ?_⟩
    have lB : c ∈ B := by rw [eB]; exact List.mem_cons_self
    have lA := l.sub c lB
    have hF1 := ext_none x1 hH nF
    obtain ⟨sv', ep, rp⟩ := l.put F1 H1 c (.lst (vs ++ [w])) (.ol (xs ++ [.fro d])) x1 lB (by
      have ndB := l.nd
      rw [eB] at ndB ⊢
      refine .ol hF1 upd_same (ROs.snoc r2 ((rs.ext x1).out ?_))
      exact (List.nodup_cons.mp ndB).1)
    rw [ep] at q
    exact q _ _ ⟨F1, As, (rel.ext x1).upd lA e2 h1 rp, ext_upd (x.trans x1) hF1 (n i c lA), n⟩
def clearP (i : Nat) (p : List Stp) : Rho → Res := fun ρ => match ρ[i]? with
  | some (some sv) => match getP sv p with
    | some (.ol xs) => if xs.all isFro = true then match putP sv p (.ol []) with
      | some sv' => .nx (ρ.set i (some sv'))
      | none => .bad
      else .bad
    | _ => .bad
  | _ => .bad
theorem p_clearP (i : Nat) (p : List Stp) {apos cpos : Pos} (hp : PE X e (tPl X.K cm i p))
    (hs : swapsWith (.Call (.Attribute e "clear" apos) [] [] cpos) none pos.line X.env = pure false := by rfl)
    (hbase : attributeBase e "clear" X.env (eval e X.env) = eval e X.env := by rfl) (hline : (apos.endLine == cpos.line) = true := by rfl) :
    PS X (.Expr (.Call (.Attribute e "clear" apos) [] [] cpos) pos) (ofS X.K cm W (clearP i p)) :=
  PS.imp (ps_expr (pe_bm0 PySem.F.plainAttrs_list PySem.F.slot_list_clear PySem.F.type_list_clear mt_clear hp hbase hline) hs) fun D σ H ⟨F0, H0, ρ, ⟨F, As, rel, x, n⟩, q⟩ => by
    unfold clearP at q
    split at q
    case h_2 => exact q.elim
    rename_i sv e2
    split at q
    case h_2 => exact q.elim
    rename_i xs e3
    split at q
    case isFalse => exact q.elim
    rename_i hall
    obtain ⟨v0, h1, r1⟩ := rel.at_ i _ e2
    refine ⟨F, ρ, As, sv, v0, _, rel, e2, h1, e3, fun v B l => ?_⟩
    obtain ⟨c, vs, C, rfl, eB, nF, hH, rs⟩ := l.ro.ol_inv
    have eC := ros_all rs hall
    subst eC
    have lB : c ∈ B := by rw [eB]; exact List.mem_cons_self
    have lA := l.sub c lB
    obtain ⟨sv', ep, rp⟩ := l.put F H c (.lst []) (.ol []) (Ext.refl rel.fh) lB (by rw [eB]; exact .ol nF upd_same .nil)
    rw [ep] at q
    exact ⟨.inl ⟨rfl, vs, .inl (.inl hH)⟩, c, vs, rfl, rfl, hH, q _ _ ⟨F, As, rel.upd lA e2 h1 rp, ext_upd x nF (n i c lA), n⟩⟩
theorem ros_set {K : PySem.W.Frag} {F H : Hp} {w : V} {d : Dat} (r : R K cm F w d) : ∀ {vs : List V} {xs : List SV} {A : List Addr} {j : Nat} {d0 : Dat}, ROs K cm F H vs xs A → xs[j]? = some (.fro d0) → ROs K cm F H (vs.set j w) (xs.set j (.fro d)) A
  | _, _, _, 0, _, .cons (A := A) (B := B) q t, e => by
    simp at e
    subst e
    cases q with
    | fro _ => exact .cons (A := []) (.fro r) t
  | _, _, _, j + 1, _, .cons q t, e => .cons q (ros_set r t (by simpa using e))
  | _, _, _, _, _, .nil, e => by simp at e
def setPl (i : Nat) (p : List Stp) (fi f : Rho → Option Dat) : Rho → Res := fun ρ => match f ρ with
  | some d => match fi ρ with
    | some (.int k) => match ρ[i]? with
      | some (some sv) => match getP sv p with
        | some (.ol xs) => match ixN xs.length k with
          | some j => match xs[j]? with
            | some (.fro _) => match putP sv p (.ol (xs.set j (.fro d))) with
              | some sv' => .nx (ρ.set i (some sv'))
              | none => .bad
            | _ => .bad
          | none => .bad
        | _ => .bad
      | _ => .bad
    | _ => .bad
  | none => .bad
/-- place[b] = a -/
theorem p_setPl (i : Nat) (p : List Stp) {pos' : Pos} {fi : Rho → Option Dat} (hp : PE X e (tPl X.K cm i p)) (hi : PE X b (ofE X.K cm fi)) (ha : PE X a (ofE X.K cm f))
    (hs : swapsWithSole [.Subscript e b pos'] a pos.line X.env = pure false := by rfl) (hw : swappedStores [.Subscript e b pos'] a X.env = pure none := by rfl)
    (h1 : (assignEach [.Subscript e b pos'] X.env).map (·.2) = [assign (.Subscript e b pos') X.env] := by rfl)
    (hasg : ∀ v, assign (.Subscript e b pos') X.env v = (do
      let ov ← holding [v] (eval e X.env)
      let iv ← holding [v, ov] (eval b X.env)
      standAt pos'
      holding [v, ov, iv] (setItem ov iv v)
      release [v, ov, iv] []) := by intro _; rfl) :
    PS X (.Assign [.Subscript e b pos'] a pos) (ofS X.K cm W (setPl i p fi f)) :=
  PS.imp (ps_asg ha (pg_sub (pos := pos') hp hi set_list hasg) hs hw h1) fun D σ H ⟨F0, H0, ρ, ⟨F, As, rel, x, n⟩, q⟩ => by
    unfold setPl at q
    split at q
    case h_2 => exact q.elim
    rename_i d e1
    split at q
    case h_2 => exact q.elim
    rename_i k e0
    split at q
    case h_2 => exact q.elim
    rename_i sv e2
    split at q
    case h_2 => exact q.elim
    rename_i xs e3
    split at q
    case h_2 => exact q.elim
    rename_i j ej
    split at q
    case h_2 => exact q.elim
    rename_i d0 e4
    obtain ⟨v0, h1, r1⟩ := rel.at_ i _ e2
    refine ⟨F, ρ, As, d, rel, e1, fun w F1 H1 x1 r2 => ?_⟩
    refine ⟨F1, ρ, As, sv, v0, _, rel.ext x1, e2, h1, e3, fun v B l => ?_⟩
    refine ⟨F1, ρ, As, .int k, rel.ext x1, e0, fun u F2 H2 x2 r3 => ?_⟩
    obtain ⟨c, vs, C, rfl, eB, nF, hH, rs⟩ := l.ro.ol_inv
    have hH2 := x2.h _ _ hH
    refine ⟨c, vs, k, j, rfl, r3.int_inv, hH2, by rw [rs.length]; exact ej, ?_⟩
    have lB : c ∈ B := by rw [eB]; exact List.mem_cons_self
    have lA := l.sub c lB
    have hF2 := ext_none x2 hH nF
    obtain ⟨sv', ep, rp⟩ := l.put F2 H2 c (.lst (vs.set j w)) (.ol (xs.set j (.fro d))) x2 lB (by
      have ndB := l.nd
      rw [eB] at ndB ⊢
      refine .ol hF2 upd_same (ros_set (r2.mono x2.f) ((rs.ext x2).out ?_) e4)
      exact (List.nodup_cons.mp ndB).1)
    rw [ep] at q
    exact q _ _ ⟨F2, As, (rel.ext (x1.trans x2)).upd lA e2 h1 rp, ext_upd (x.trans (x1.trans x2)) hF2 (n i c lA), n⟩
end
end
end Pq

namespace Pq
open PySem PySem.Spec PyProof.Rows L2
noncomputable section
/-! ### data as the library's data -/
mutual
def py : Dat → PyData
  | .non => .none | .bl b => .bool b | .int i => .int i | .str x => .str x
  | .lst xs => .list (pys xs)
  | .tup xs => .tuple (pys xs)
  | .dct _ _ => .none | .obj _ _ _ => .none | .scr _ => .none | .cel _ => .none
def pys : List Dat → List PyData
  | [] => []
  | x :: xs => py x :: pys xs
end
mutual
def pl : Dat → Bool
  | .non => true | .bl _ => true | .int _ => true | .str _ => true
  | .lst xs => pls xs
  | .tup xs => pls xs
  | .dct _ _ => false | .obj _ _ _ => false | .scr _ => false | .cel _ => false
def pls : List Dat → Bool
  | [] => true
  | x :: xs => pl x && pls xs
end
theorem pys_map : ∀ xs : List Dat, pys xs = xs.map py
  | [] => by rw [pys]; rfl
  | x :: xs => by rw [pys, pys_map xs]; rfl
theorem pls_all : ∀ xs : List Dat, pls xs = xs.all pl
  | [] => by rw [pls]; rfl
  | x :: xs => by rw [pls, pls_all xs]; rfl
section
variable {X : Cx} {cm : CM} {pins : List (Addr × Obj)} {σ : L2.St} {F H : Hp} {s : Shared}
mutual
theorem R.reads (I : Inv X pins σ H s) (e : Same F H) : ∀ {v : V} {d : Dat}, R X.K cm F v d → pl d = true → ∀ {u : Value}, RelV v u → ∃ as, Reads s.heap u (py d) as
  | _, _, .non, _, _, r => by cases r; exact ⟨_, by rw [py]; exact .none⟩
  | _, _, .bl b, _, _, r => by cases r; exact ⟨_, by rw [py]; exact .bool b⟩
  | _, _, .int i, _, _, r => by obtain ⟨t, rfl⟩ := r; exact ⟨_, by rw [py]; exact .int i t⟩
  | _, _, .str x, _, _, r => by obtain ⟨t, rfl⟩ := r; exact ⟨_, by rw [py]; exact .str x t⟩
  | _, _, .lst h rs, hp, _, r => by
    cases r
    obtain ⟨its, rv, o, ho, hc, n, hd⟩ := R.at_list I e h
    rw [pl] at hp
    obtain ⟨as, q⟩ := Rs.reads I e rs hp rv
    exact ⟨_, by rw [py]; exact .list ho hc hd q⟩
  | _, _, .tup h rs, hp, _, r => by
    cases r
    obtain ⟨its, rv, o, ho, hc, n, hd⟩ := R.at_tup I e h
    rw [pl] at hp
    obtain ⟨as, q⟩ := Rs.reads I e rs hp rv
    exact ⟨_, by rw [py]; exact .tuple ho hc hd q⟩
  | _, _, .dct h k r, hp, _, _ => by rw [pl] at hp; cases hp
  | _, _, .obj h k r, hp, _, _ => by rw [pl] at hp; cases hp
  | _, _, .scr h r, hp, _, _ => by rw [pl] at hp; cases hp
  | _, _, .cel h, hp, _, _ => by rw [pl] at hp; cases hp
theorem Rs.reads (I : Inv X pins σ H s) (e : Same F H) : ∀ {vs : List V} {ds : List Dat}, Rs X.K cm F vs ds → pls ds = true → ∀ {us : List Value}, Vals vs us → ∃ as, ReadsAll s.heap us (pys ds) as
  | _, _, .nil, _, _, r => by cases r; exact ⟨_, by rw [pys]; exact .nil⟩
  | _, _, .cons r1 rs, hp, _, .cons q qs => by
    rw [pls, Bool.and_eq_true] at hp
    obtain ⟨as, z⟩ := R.reads I e r1 hp.1 q
    obtain ⟨bs, y⟩ := Rs.reads I e rs hp.2 qs
    exact ⟨_, by rw [pys]; exact .cons z y⟩
end
end
section
variable {X : Cx} {cm : CM} {W : L2.WX} {a b e : Expr} {es : List Expr} {fa fb f : Rho → Option Dat} {fs : Rho → Option (List Dat)} {pos : Pos}
/-! ### order of data -/
def ordP (d d' : Dat) : Prop := pl d = true ∧ pl d' = true ∧ PySem.W.alike (py d) (py d') = true ∧ py d ≠ .none ∧ min (py d).depth (py d').depth ≤ 50
def rDat2 (K : PySem.W.Frag) (cm : CM) (f : PyData → PyData → Bool) : R2 := fun x y H Q => ∃ F d d', Same F H ∧ R K cm F x d ∧ R K cm F y d' ∧ ordP d d' ∧ Q (.bl (f (py d) (py d'))) H
theorem op_ltP (hu : X.A.units + 64 < cLine) : OpR X (compareOp .Lt) (rDat2 X.K cm PySem.W.dataLt) := by
  intro pins s σ H x y v u Q I rx ry ⟨F, d, d', e, r1, r2, ⟨p1, p2, p3, p4, p5⟩, q⟩
  obtain ⟨as, z1⟩ := R.reads I e r1 p1 rx
  obtain ⟨bs, z2⟩ := R.reads I e r2 p2 ry
  exact PySem.W.lt_data z1 z2 p3 p4 (by omega) ⟨.bl _, H, I, rfl, q⟩
theorem op_gtP (hu : X.A.units + 64 < cLine) : OpR X (compareOp .Gt) (rDat2 X.K cm fun a b => PySem.W.dataLt b a) := by
  intro pins s σ H x y v u Q I rx ry ⟨F, d, d', e, r1, r2, ⟨p1, p2, p3, p4, p5⟩, q⟩
  obtain ⟨as, z1⟩ := R.reads I e r1 p1 rx
  obtain ⟨bs, z2⟩ := R.reads I e r2 p2 ry
  exact PySem.W.gt_data z1 z2 p3 p4 (by omega) ⟨.bl _, H, I, rfl, q⟩
theorem op_leP (hu : X.A.units + 64 < cLine) : OpR X (compareOp .LtE) (rDat2 X.K cm fun a b => !PySem.W.dataLt b a) := by
  intro pins s σ H x y v u Q I rx ry ⟨F, d, d', e, r1, r2, ⟨p1, p2, p3, p4, p5⟩, q⟩
  obtain ⟨as, z1⟩ := R.reads I e r1 p1 rx
  obtain ⟨bs, z2⟩ := R.reads I e r2 p2 ry
  exact PySem.W.le_data z1 z2 p3 p4 (by omega) ⟨.bl _, H, I, rfl, q⟩
theorem op_geP (hu : X.A.units + 64 < cLine) : OpR X (compareOp .GtE) (rDat2 X.K cm fun a b => !PySem.W.dataLt a b) := by
  intro pins s σ H x y v u Q I rx ry ⟨F, d, d', e, r1, r2, ⟨p1, p2, p3, p4, p5⟩, q⟩
  obtain ⟨as, z1⟩ := R.reads I e r1 p1 rx
  obtain ⟨bs, z2⟩ := R.reads I e r2 p2 ry
  exact PySem.W.ge_data z1 z2 p3 p4 (by omega) ⟨.bl _, H, I, rfl, q⟩
/-- two tuples, two lists: by data; else as before -/
def seqs : Dat → Dat → Bool
  | .tup _, .tup _ => true
  | .lst _, .lst _ => true
  | _, _ => false
def ordX (f : PyData → PyData → Bool) (g : Dat → Dat → Option Dat) (d d' : Dat) : Option Dat := if seqs d d' = true then @ite _ (ordP d d') (Classical.propDecidable _) (some (.bl (f (py d) (py d')))) none else g d d'
theorem od_X {f : PyData → PyData → Bool} {g : Dat → Dat → Option Dat} {r : R2} (hg : OpD X cm r g) : OpD X cm (fun x y H Q => rDat2 X.K cm f x y H Q ∨ r x y H Q) (ordX f g) := fun F H x y a b d Q e r1 r2 hz k => by
  unfold ordX at hz
  split at hz
  · obtain ⟨c, rfl⟩ := ite_some hz
    exact .inl ⟨F, a, b, e, r1, r2, c, k _ F H (Ext.refl e) (.bl _)⟩
  · exact .inr (hg F H x y a b d Q e r1 r2 hz k)
def ltX := ordX PySem.W.dataLt ltD
def gtX := ordX (fun a b => PySem.W.dataLt b a) gtD
def leX := ordX (fun a b => !PySem.W.dataLt b a) leD
def geX := ordX (fun a b => !PySem.W.dataLt a b) geD
theorem op_ltX (hu : X.A.units + 64 < cLine) : OpR X (compareOp .Lt) (fun x y H Q => rDat2 X.K cm PySem.W.dataLt x y H Q ∨ rOrd (fun i j => decide (i < j)) (fun i j => decide (i.cps.toList < j.cps.toList)) x y H Q) := (op_ltP hu).or op_ltA
theorem op_gtX (hu : X.A.units + 64 < cLine) : OpR X (compareOp .Gt) (fun x y H Q => rDat2 X.K cm (fun a b => PySem.W.dataLt b a) x y H Q ∨ rOrd (fun i j => decide (j < i)) (fun i j => decide (j.cps.toList < i.cps.toList)) x y H Q) := (op_gtP hu).or op_gtA
theorem op_leX (hu : X.A.units + 64 < cLine) : OpR X (compareOp .LtE) (fun x y H Q => rDat2 X.K cm (fun a b => !PySem.W.dataLt b a) x y H Q ∨ rOrd (fun i j => decide (i ≤ j)) (fun i j => !decide (j.cps.toList < i.cps.toList)) x y H Q) := (op_leP hu).or op_leA
theorem op_geX (hu : X.A.units + 64 < cLine) : OpR X (compareOp .GtE) (fun x y H Q => rDat2 X.K cm (fun a b => !PySem.W.dataLt a b) x y H Q ∨ rOrd (fun i j => decide (j ≤ i)) (fun i j => !decide (i.cps.toList < j.cps.toList)) x y H Q) := (op_geP hu).or op_geA
theorem od_ltX : OpD X cm (fun x y H Q => rDat2 X.K cm PySem.W.dataLt x y H Q ∨ rOrd (fun i j => decide (i < j)) (fun i j => decide (i.cps.toList < j.cps.toList)) x y H Q) ltX := od_X od_lt
theorem od_gtX : OpD X cm (fun x y H Q => rDat2 X.K cm (fun a b => PySem.W.dataLt b a) x y H Q ∨ rOrd (fun i j => decide (j < i)) (fun i j => decide (j.cps.toList < i.cps.toList)) x y H Q) gtX := od_X od_gt
theorem od_leX : OpD X cm (fun x y H Q => rDat2 X.K cm (fun a b => !PySem.W.dataLt b a) x y H Q ∨ rOrd (fun i j => decide (i ≤ j)) (fun i j => !decide (j.cps.toList < i.cps.toList)) x y H Q) leX := od_X od_le
theorem od_geX : OpD X cm (fun x y H Q => rDat2 X.K cm (fun a b => !PySem.W.dataLt a b) x y H Q ∨ rOrd (fun i j => decide (j ≤ i)) (fun i j => !decide (i.cps.toList < j.cps.toList)) x y H Q) geX := od_X od_ge
theorem e_ltX (hu : X.A.units + 64 < cLine) (ha : PE X a (ofE X.K cm fa)) (hb : PE X b (ofE X.K cm fb)) : PE X (.Compare a [.Lt] [b] pos) (ofE X.K cm (bin ltX fa fb)) := e_cmp (op_ltX hu) od_ltX ha hb (nomark _)
theorem e_gtX (hu : X.A.units + 64 < cLine) (ha : PE X a (ofE X.K cm fa)) (hb : PE X b (ofE X.K cm fb)) : PE X (.Compare a [.Gt] [b] pos) (ofE X.K cm (bin gtX fa fb)) := e_cmp (op_gtX hu) od_gtX ha hb (nomark _)
theorem e_leX (hu : X.A.units + 64 < cLine) (ha : PE X a (ofE X.K cm fa)) (hb : PE X b (ofE X.K cm fb)) : PE X (.Compare a [.LtE] [b] pos) (ofE X.K cm (bin leX fa fb)) := e_cmp (op_leX hu) od_leX ha hb (nomark _)
theorem e_geX (hu : X.A.units + 64 < cLine) (ha : PE X a (ofE X.K cm fa)) (hb : PE X b (ofE X.K cm fb)) : PE X (.Compare a [.GtE] [b] pos) (ofE X.K cm (bin geX fa fb)) := e_cmp (op_geX hu) od_geX ha hb (nomark _)
theorem t_ltX (hu : X.A.units + 64 < cLine) (ha : PE X a (ofE X.K cm fa)) (hb : PE X b (ofE X.K cm fb)) : PT X (.Compare a [.Lt] [b] pos) (ofT X.K cm (tst (bin ltX fa fb))) := t_cmp (op_ltX hu) od_ltX ha hb (nomark _)
theorem t_gtX (hu : X.A.units + 64 < cLine) (ha : PE X a (ofE X.K cm fa)) (hb : PE X b (ofE X.K cm fb)) : PT X (.Compare a [.Gt] [b] pos) (ofT X.K cm (tst (bin gtX fa fb))) := t_cmp (op_gtX hu) od_gtX ha hb (nomark _)
theorem t_leX (hu : X.A.units + 64 < cLine) (ha : PE X a (ofE X.K cm fa)) (hb : PE X b (ofE X.K cm fb)) : PT X (.Compare a [.LtE] [b] pos) (ofT X.K cm (tst (bin leX fa fb))) := t_cmp (op_leX hu) od_leX ha hb (nomark _)
theorem t_geX (hu : X.A.units + 64 < cLine) (ha : PE X a (ofE X.K cm fa)) (hb : PE X b (ofE X.K cm fb)) : PT X (.Compare a [.GtE] [b] pos) (ofT X.K cm (tst (bin geX fa fb))) := t_cmp (op_geX hu) od_geX ha hb (nomark _)
/-! ### sorted(list) -/
def leY (a b : Dat) : Bool := !PySem.W.dataLt (py b) (py a)
def srtP (ds : List Dat) : Prop := (∀ d ∈ ds, pl d = true ∧ (py d).depth ≤ 50) ∧ PySem.W.AllAlike (ds.map py) ∧ PySem.W.Sortable (ds.map py) ∧ ds.length ≤ sizeLine
def rSrt (K : PySem.W.Frag) (cm : CM) : List V → Hp → VK → Prop := fun vs H Q => ∃ F a ws ds, vs = [V.ref a] ∧ Same F H ∧ SqL K F a ws ∧ Rs K cm F ws ds ∧ srtP ds ∧ ∀ ws' p, H p = none → Rs K cm F ws' (ds.mergeSort leY) → Q (.ref p) (upd H p (.lst ws'))
theorem Rs.mem {K : PySem.W.Frag} {F : Hp} : ∀ {ws : List V} {ds : List Dat}, Rs K cm F ws ds → ∀ {us : List Value}, Vals ws us → PySem.W.EachIs (fun u (b : V × Dat) => RelV b.1 u ∧ R K cm F b.1 b.2) us (ws.zip ds)
  | _, _, .nil, _, .nil => .nil
  | _, _, .cons r rs, _, .cons q qs => .cons ⟨q, r⟩ (Rs.mem rs qs)
theorem zip_snd {K : PySem.W.Frag} {F : Hp} : ∀ {ws : List V} {ds : List Dat}, Rs K cm F ws ds → (ws.zip ds).map (·.2) = ds ∧ (ws.zip ds).length = ds.length
  | _, _, .nil => ⟨rfl, rfl⟩
  | _, _, .cons r rs => by
    obtain ⟨h1, h2⟩ := zip_snd rs
    exact ⟨by rw [List.zip_cons_cons, List.map_cons, h1], by rw [List.zip_cons_cons, List.length_cons, List.length_cons, h2]⟩
theorem each_out {K : PySem.W.Frag} {F : Hp} : ∀ {us : List Value} {bs : List (V × Dat)}, PySem.W.EachIs (fun u (b : V × Dat) => RelV b.1 u ∧ R K cm F b.1 b.2) us bs → Vals (bs.map (·.1)) us ∧ Rs K cm F (bs.map (·.1)) (bs.map (·.2))
  | _, _, .nil => ⟨.nil, .nil⟩
  | _, _, .cons h t => by
    obtain ⟨q1, q2⟩ := each_out t
    exact ⟨.cons h.1 q1, .cons h.2 q2⟩
theorem cr_srt (hu : X.A.units + 64 < cLine) : CallR X (.builtin "sorted") (rSrt X.K cm) := by
  intro pins s σ H vs us Q I r ⟨F, a, ws, ds, ev, e, hs, rs, ⟨p1, p2, p3, p4⟩, q⟩
  subst ev
  obtain ⟨its, rv, hl, _⟩ := I.list (e.seq hs)
  rw [Vals.ref1 r]
  obtain ⟨z1, z2⟩ := zip_snd rs
  have hm : (ws.zip ds).map (fun b : V × Dat => py b.2) = ds.map py := by
    have := congrArg (List.map py) z1
    rw [List.map_map] at this
    exact this
  have er := Rs.mem rs rv
  have er2 : PySem.W.EachIs (fun u (b : V × Dat) => ∃ as, Reads s.heap u (py b.2) as) its (ws.zip ds) := by
    have : ∀ {us : List Value} {bs : List (V × Dat)}, (∀ b ∈ bs, pl b.2 = true) → PySem.W.EachIs (fun u (b : V × Dat) => RelV b.1 u ∧ R X.K cm F b.1 b.2) us bs → PySem.W.EachIs (fun u (b : V × Dat) => ∃ as, Reads s.heap u (py b.2) as) us bs := by
      intro us bs hb h
      induction h with
      | nil => exact .nil
      | cons h t ih => exact .cons (R.reads I e h.2 (hb _ List.mem_cons_self) h.1) (ih fun b hb' => hb b (List.mem_cons_of_mem _ hb'))
    exact this (fun b hb => (p1 b.2 (by rw [← z1]; exact List.mem_map_of_mem hb)).1) er
  refine PySem.W.sorted_data (enc := fun b : V × Dat => py b.2) hl.isList er er2 (by rw [hm]; exact p2) (by rw [hm]; exact p3) (by rw [z2]; exact p4) (fun b hb => ?_) fun out ho hout => ?_
  · have := (p1 b.2 (by rw [← z1]; exact List.mem_map_of_mem hb)).2
    omega
  obtain ⟨q1, q2⟩ := each_out hout
  have e2 : ((ws.zip ds).mergeSort (PySem.W.dataLe false fun b : V × Dat => py b.2)).map (·.2) = ds.mergeSort leY := by
    rw [List.map_mergeSort (r := PySem.W.dataLe false fun b : V × Dat => py b.2) (s := leY) (f := fun b : V × Dat => b.2), z1]
    intro a _ b _
    rfl
  rw [e2] at q2
  obtain ⟨ep, he'⟩ := PyProof.Rows.sortedAll_at s.heap its (List.toArray out)
  have hlen : (((ws.zip ds).mergeSort (PySem.W.dataLe false fun b : V × Dat => py b.2)).map (·.1)).length ≤ sizeLine := by rw [q1.length, ho, z2]; exact p4
  exact ⟨.ref _, upd H (s.heap.objs.size + 1) (.lst _), I.laid (t' := s.toks) (fun _ _ => PyProof.Rows.sortedAll_old) (Nat.le_succ _) ⟨hlen, out, ep, q1, he'⟩, rfl, q _ _ (I.hok.fresh (Nat.le_succ _)) q2⟩
def sortD : List Dat → Option Dat
  | [.lst ds] => @ite _ (srtP ds) (Classical.propDecidable _) (some (.lst (ds.mergeSort leY))) none
  | _ => none
theorem cd_sort : ClD X cm (rSrt X.K cm) sortD := fun F H vs ds d Q e rs hg k => by
  unfold sortD at hg
  split at hg
  · obtain ⟨c, rfl⟩ := ite_some hg
    obtain ⟨v, rfl, r⟩ := rs.one
    obtain ⟨a, ws, rfl, h, q⟩ := r.lst_inv
    exact ⟨F, a, ws, _, rfl, e, .inl h, q, c, fun ws' p hp r' => new_lst e r' k p hp⟩
  · cases hg
theorem e_sorted {p : Pos} (hu : X.A.units + 64 < cLine) (hg : Gl X "sorted") (hm : X.mg "sorted" = none) (ha : PA X (e :: es) (ofA X.K cm fs)) (he : starEach (e :: es) X.env = (false, eval e X.env) :: starEach es X.env := by rfl) (hpl : (backTo pos (starEach es X.env)).any (·.1) = false := by rfl) :
    PE X (.Call (.Name "sorted" p) (e :: es) [] pos) (ofE X.K cm (app sortD fs)) := e_callB (cr_srt hu) cd_sort hg hm (by decide +kernel) ha (by decide) (by decide) he hpl
end
end
end Pq

namespace Pq
open PySem PySem.Spec PyProof.Rows L2
noncomputable section
section
variable {K : PySem.W.Frag} {cm : CM} {F F1 H H1 : Hp} {σ : L2.St} {ρ : Rho} {As : Nat → List Addr}
theorem ROs.app : ∀ {vs : List V} {xs : List SV} {A : List Addr} {ws : List V} {ys : List SV} {B : List Addr}, ROs K cm F H vs xs A → ROs K cm F H ws ys B → ROs K cm F H (vs ++ ws) (xs ++ ys) (A ++ B)
  | _, _, _, _, _, _, .nil, t => t
  | _, _, _, _, _, _, .cons r q, t => by
    rw [List.append_assoc]
    exact .cons r (ROs.app q t)
/-- a place's own object takes new objects in -/
theorem rel_grow (rel : Rel K cm F H σ ρ As) (x1 : Ext F H F1 H1) {i : Nat} {a : Addr} {o : HO} {v : V} {sv sv' : SV} {A : List Addr} (ha : a ∈ As i) (hi : ρ[i]? = some (some sv)) (hv : σ[i]? = some (some v)) (nA : ∀ b ∈ A, H b = none) (ndA : A.Nodup) (own : ∀ b ∈ A, F1 b = none ∧ ∃ o, H1 b = some o)
    (r : RO K cm F1 (upd H1 a o) v sv' (As i ++ A)) : Rel K cm F1 (upd H1 a o) σ (ρ.set i (some sv')) (fun j => if j = i then As i ++ A else As j) := by
  have r1 := rel.ext x1
  have out : ∀ b ∈ A, ∀ j, b ∉ As j := fun b hb j hj => by
    obtain ⟨_, o, q⟩ := rel.own j b hj
    rw [nA b hb] at q
    cases q
  have outA : ∀ j, ∀ b ∈ (if j = i then As i ++ A else As j), ∀ k, cm.t k ≠ some b := fun j b hb k hk => by
    have nA' : b ∈ A → False := fun z => by
      obtain ⟨o, q⟩ := rel.cel.own_ hk
      rw [nA b z] at q
      cases q
    split at hb
    · rcases List.mem_append.mp hb with z | z
      · exact rel.out i b z k hk
      · exact nA' z
    · exact rel.out j b hb k hk
  refine ⟨?_, ?_, fun j sv1 h => ?_, fun j => ?_, fun j k hjk b hb hb' => ?_, fun j b hb => ?_, r1.cel.put_ (rel.out i a ha), outA⟩
  · rw [List.length_set]; exact rel.len
  · intro b u h
    have : b ≠ a := fun z => by
      rw [z, (r1.own i a ha).1] at h
      cases h
    rw [upd_ne this]
    exact r1.fh b u h
  · by_cases hj : i = j
    · subst hj
      have hl : i < ρ.length := (List.getElem?_eq_some_iff.mp hi).1
      rw [List.getElem?_set_self hl] at h
      cases h
      exact ⟨v, hv, by rw [if_pos rfl]; exact r⟩
    · rw [List.getElem?_set_ne hj] at h
      obtain ⟨w, h1, h2⟩ := r1.at_ j sv1 h
      exact ⟨w, h1, by rw [if_neg (fun z => hj z.symm)]; exact h2.out (rel.sep i j hj a ha)⟩
  · by_cases hj : j = i
    · simp only [if_pos hj]
      rw [List.nodup_append]
      exact ⟨rel.nd i, ndA, fun b hb c hc z => out c hc i (z ▸ hb)⟩
    · simp only [if_neg hj]; exact rel.nd j
  · by_cases hj : j = i
    · simp only [if_pos hj] at hb
      have hk : k ≠ i := fun z => hjk (hj.trans z.symm)
      simp only [if_neg hk] at hb'
      rcases List.mem_append.mp hb with z | z
      · exact rel.sep i k (fun z => hk z.symm) b z hb'
      · exact out b z k hb'
    · simp only [if_neg hj] at hb
      by_cases hk : k = i
      · simp only [if_pos hk] at hb'
        rcases List.mem_append.mp hb' with z | z
        · exact rel.sep j i hj b hb z
        · exact out b z j hb
      · simp only [if_neg hk] at hb'
        exact rel.sep j k hjk b hb hb'
  · have base : F1 b = none ∧ ∃ o, H1 b = some o := by
      by_cases hj : j = i
      · simp only [if_pos hj] at hb
        rcases List.mem_append.mp hb with z | z
        · exact r1.own i b z
        · exact own b z
      · simp only [if_neg hj] at hb
        exact r1.own j b hb
    refine ⟨base.1, ?_⟩
    by_cases hab : b = a
    · subst hab; exact ⟨o, upd_same⟩
    · obtain ⟨u, q⟩ := base.2
      exact ⟨u, by rw [upd_ne hab]; exact q⟩
theorem putF_new {f : Str} {y : V} : ∀ {fvs : List (Str × V)}, f ∉ fvs.map (·.1) → putF f y fvs = fvs ++ [(f, y)]
  | [], _ => rfl
  | (g, x) :: r, h => by
    rw [List.map_cons, List.mem_cons, not_or] at h
    rw [putF, if_neg (fun z => h.1 z.symm), putF_new h.2]
    rfl
end
section
variable {X : Cx} {cm : CM} {W : L2.WX} {a b e o : Expr} {es : List Expr} {fa fb f : Rho → Option Dat} {fs : Rho → Option (List Dat)} {g : Rho → Option SV} {pos : Pos}
/-! ### self.f = e, f new -/
def fldS (i : Nat) (c f : Str) (g : Rho → Option SV) : Rho → Res := fun ρ => match g ρ with
  | some x => match ρ[i]? with
    | some (some (.oo a c' fs xs)) => if c' = c ∧ f ∉ fs ∧ fs.length < 1000 then .nx (ρ.set i (some (.oo a c' (fs ++ [f]) (xs ++ [x])))) else .bad
    | _ => .bad
  | none => .bad
theorem p_fld (i : Nat) {c f : Str} {pos' : Pos} (hc : Cls X.K (cm c)) (hn : NoAttr X.K (cm c) f) (ho : PE X o (tVar i)) (he : PE X e (ofO X.K cm g)) (hs : swapsWith e (some (.Attribute o f pos')) pos.line X.env = pure false := by rfl) :
    PS X (.Assign [.Attribute o f pos'] e pos) (ofS X.K cm W (fldS i c f g)) := PS.imp (ps_fld ho he hs) fun D σ H ⟨F0, H0, ρ, ⟨F, As, rel, x, n⟩, q⟩ => by
  unfold fldS at q
  split at q
  case h_2 => exact q.elim
  rename_i sv e1
  split at q
  case h_2 => exact q.elim
  rename_i a c' fs xs e2
  split at q
  case isFalse => exact q.elim
  rename_i hh
  obtain ⟨ec, hf, hl⟩ := hh
  subst ec
  obtain ⟨v0, h1, r1⟩ := rel.at_ i _ e2
  refine ⟨F, ρ, As, sv, rel, e1, fun v F1 H1 A x1 r2 ndA nA => ⟨v0, h1, ?_⟩⟩
  obtain ⟨dx, fvs, B, rfl, eA, nF, hH, hk, rs⟩ := r1.oo_inv
  have hH1 := x1.h _ _ hH
  have aA : a ∈ As i := by rw [eA]; exact List.mem_cons_self
  refine ⟨a, _, dx, fvs, rfl, hH1, hc, hn, by rw [← List.length_map (f := (·.1)), hk]; exact hl, ?_⟩
  have hF1 := ext_none x1 hH nF
  have aB : a ∉ B := by
    have := rel.nd i
    rw [eA] at this
    exact (List.nodup_cons.mp this).1
  have aA2 : a ∉ A := fun z => by
    have := nA a z
    rw [hH] at this
    cases this
  have own : ∀ b ∈ A, F1 b = none ∧ ∃ o, H1 b = some o := fun b hb => r2.own b hb
  have hnew : f ∉ fvs.map (·.1) := by rw [hk]; exact hf
  have rr : RO X.K cm F1 (upd H1 a (.ins (cm c') dx (putF f v fvs))) (.ref a) (.oo a c' (fs ++ [f]) (xs ++ [sv])) (As i ++ A) := by
    rw [eA, putF_new hnew]
    refine .oo hF1 upd_same (by rw [List.map_append, hk]; rfl) ?_
    rw [List.map_append]
    have q1 := (rs.ext x1).out (o := .ins (cm c') dx (fvs ++ [(f, v)])) aB
    have q2 := r2.out (o := .ins (cm c') dx (fvs ++ [(f, v)])) aA2
    have q3 : ROs X.K cm F1 (upd H1 a (.ins (cm c') dx (fvs ++ [(f, v)]))) [v] [sv] (A ++ []) := .cons q2 .nil
    rw [List.append_nil] at q3
    exact ROs.app q1 q3
  refine q _ _ ⟨F1, _, rel_grow rel x1 aA e2 h1 nA ndA own rr, ext_upd (x.trans x1) hF1 (n i a aA), fun j b hb => ?_⟩
  by_cases hj : j = i
  · simp only [if_pos hj] at hb
    rcases List.mem_append.mp hb with z | z
    · exact n i b z
    · exact x.h.free (nA b z)
  · simp only [if_neg hj] at hb
    exact n j b hb
/-! ### x.f of settled objects -/
def lookF : List Str → List Dat → Str → Option Dat
  | k :: ks, x :: xs, j => if j = k then some x else lookF ks xs j
  | _, _, _ => none
theorem look_fld {K : PySem.W.Frag} {F : Hp} {f : Str} {x : Dat} : ∀ {fvs : List (Str × V)} {xs : List Dat}, Rs K cm F (fvs.map (·.2)) xs → lookF (fvs.map (·.1)) xs f = some x → ∃ v, fvs.lookup f = some v ∧ R K cm F v x
  | [], _, _, h => by cases h
  | p :: fvs, [], r, _ => by cases r
  | (k, y) :: fvs, x' :: xs, .cons r t, h => by
    rw [List.map_cons, lookF] at h
    by_cases hk : f = k
    · rw [if_pos hk] at h
      cases h
      exact ⟨y, by rw [List.lookup_cons, beq_iff_eq.mpr hk], r⟩
    · rw [if_neg hk] at h
      obtain ⟨v, h1, h2⟩ := look_fld t h
      exact ⟨v, by rw [List.lookup_cons, beq_eq_false_iff_ne.mpr hk]; exact h1, h2⟩
theorem R.obj_inv {K : PySem.W.Frag} {F : Hp} {v : V} {c : Str} {fs : List Str} {xs : List Dat} (h : R K cm F v (.obj c fs xs)) : ∃ a dx fvs, v = .ref a ∧ F a = some (.ins (cm c) dx fvs) ∧ fvs.map (·.1) = fs ∧ Rs K cm F (fvs.map (·.2)) xs := by
  cases h with
  | obj h k r => exact ⟨_, _, _, rfl, h, k, r⟩
def fldD (cs : List Str) (f : Str) (d : Dat) : Option Dat := match d with
  | .obj c fs xs => if c ∈ cs then lookF fs xs f else none
  | _ => none
theorem e_fld {cs : List Str} {f : Str} (hc : ∀ c ∈ cs, Cls X.K (cm c) ∧ NoAttr X.K (cm c) f) (ha : PE X a (ofE X.K cm fa)) (hb : attributeBase a f X.env (eval a X.env) = eval a X.env := by rfl) : PE X (.Attribute a f pos) (ofE X.K cm (un (fldD cs f) fa)) := PE.imp (pe_fld ha hb) fun σ H Q ⟨F, ρ, As, d, rel, hf, k⟩ => by
  obtain ⟨x, e1, hf⟩ := bind_some hf
  refine ⟨F, ρ, As, x, rel, e1, fun v F1 H1 x1 r1 => ?_⟩
  unfold fldD at hf
  split at hf
  · split at hf
    · rename_i c fs xs hmem
      obtain ⟨p, dx, fvs, rfl, h1, h2, h3⟩ := r1.obj_inv
      rw [← h2] at hf
      obtain ⟨w, q1, q2⟩ := look_fld h3 hf
      exact ⟨p, _, dx, fvs, w, rfl, x1.fh _ _ h1, (hc c hmem).1, (hc c hmem).2, q1, k w F1 H1 x1 q2⟩
    · cases hf
  · cases hf
/-! ### o.m(..), o settled -/
def methS (c m : Str) (g : List Dat → Option Out) (fo : Rho → Option Dat) (f : Rho → Option (List Dat)) : Rho → Option SV := fun ρ => (fo ρ).bind fun d => (f ρ).bind fun ds => match d with
  | .obj c' fl _ => if c' = c ∧ m ∉ fl then (g (d :: ds)).bind fun
    | .ok sv => some sv
    | .exc _ _ _ => none
    else none
  | _ => none
theorem lookup_none {f : Str} : ∀ {fvs : List (Str × V)}, f ∉ fvs.map (·.1) → fvs.lookup f = none
  | [], _ => rfl
  | (g, x) :: r, h => by
    rw [List.map_cons, List.mem_cons, not_or] at h
    rw [List.lookup_cons, beq_eq_false_iff_ne.mpr h.1]
    exact lookup_none h.2
variable {k : Nat} {fn : Addr} {fd : FuncData} {ps : List Str} {gg : List Dat → Option Out} {m c : Str} {apos : Pos}
theorem meth_run {K : PySem.W.Frag} {F F1 H H1 : Hp} {v : V} {vs : List V} {d : Dat} {ds : List Dat} {sv : SV} {Q : VK} {E : XK} {fl : List Str} {xs : List Dat} (hd : d = .obj c fl xs) (r1 : R K cm F v d) (x2 : Ext F H F1 H1) (cl : Cells K cm F1 H1) (r2 : Rs K cm F1 vs ds) (hg : (gg (d :: ds)).bind (fun | .ok sv => some sv | .exc _ _ _ => none) = some sv)
    (k : ∀ v F' H' A, Ext F1 H1 F' H' → RO K cm F' H' v sv A → A.Nodup → (∀ a ∈ A, H1 a = none) → Q v H') : spX K cm gg (v :: (vs ++ [])) H1 Q E := by
  rw [List.append_nil]
  exact spX_of (F := F1) (ds := d :: ds) x2.fh cl (.cons (r1.mono x2.f) r2) hg k
theorem o_meth (hc : Cls X.K (cm c)) (hm : Meth X.K (cm c) m fn) (G : FnOk X.prog X.w X.K X.mg X.base (L2.CX X.prog X.w) k fn fd ps (spX X.K cm gg)) (hr : Room k X.A) (hb : Binds X.K fd ps []) (ho : PE X o (ofE X.K cm fa)) (ha : PA X (e :: es) (ofA X.K cm fs))
    (hst : starEach (e :: es) X.env = (false, eval e X.env) :: starEach es X.env := by rfl) (hpl : (backTo pos (starEach es X.env)).any (·.1) = false := by rfl)
    {pl : Sem Bool} (ht : eval (.Call (.Attribute o m apos) (e :: es) [] pos) X.env = (do
      let ov ← eval o X.env
      standAt apos.atName
      let (f, first) ← holding [ov] (getMethod ov m pl)
      callWith pos f first (backTo pos (starEach (e :: es) X.env)) (backToKw pos (keywordEach [] X.env))) := by rfl) :
    PE X (.Call (.Attribute o m apos) (e :: es) [] pos) (ofO X.K cm (methS c m gg fa fs)) := PE.imp (pe_meth (pl := pl) (E := fun _ _ _ => False) ho hc hm G hr hb .nil passL ha hst hpl ht) fun σ H Q ⟨F, ρ, As, sv, rel, hf, q⟩ => by
  obtain ⟨d, e1, hf1⟩ := bind_some hf
  obtain ⟨ds, e2, hf2⟩ := bind_some hf1
  clear hf hf1
  refine ⟨F, ρ, As, d, rel, e1, fun v F1 H1 x1 r1 => ?_⟩
  cases d with
  | obj c' fl xs =>
    dsimp only at hf2
    split at hf2
    · rename_i hh
      obtain ⟨rfl, hm2⟩ := hh
      obtain ⟨p, dx, fvs, rfl, h1, h2, h3⟩ := id r1.obj_inv
      refine ⟨p, dx, fvs, rfl, x1.fh _ _ h1, lookup_none (by rw [h2]; exact hm2), F1, ρ, As, ds, rel.ext x1, e2, fun vs F2 H2 x2 r2 => ?_⟩
      exact meth_run rfl r1 x2 ((rel.ext x1).cel.ext x2) r2 hf2 fun v F3 H3 A x3 r3 nd n => q v F3 H3 A ((x1.trans x2).trans x3) r3 nd fun a h => (x1.trans x2).h.free (n a h)
    · cases hf2
  | _ => cases hf2
theorem o_meth0 (hc : Cls X.K (cm c)) (hm : Meth X.K (cm c) m fn) (G : FnOk X.prog X.w X.K X.mg X.base (L2.CX X.prog X.w) k fn fd ps (spX X.K cm gg)) (hr : Room k X.A) (hb : Binds X.K fd ps []) (ho : PE X o (ofE X.K cm fa))
    {pl : Sem Bool} (ht : eval (.Call (.Attribute o m apos) [] [] pos) X.env = (do
      let ov ← eval o X.env
      standAt apos.atName
      let (f, first) ← holding [ov] (getMethod ov m pl)
      callWith pos f first (backTo pos (starEach [] X.env)) (backToKw pos (keywordEach [] X.env))) := by rfl) :
    PE X (.Call (.Attribute o m apos) [] [] pos) (ofO X.K cm (methS c m gg fa nilA)) := PE.imp (pe_meth0 (pl := pl) (E := fun _ _ _ => False) ho hc hm G hr hb .nil passL ht) fun σ H Q ⟨F, ρ, As, sv, rel, hf, q⟩ => by
  obtain ⟨d, e1, hf1⟩ := bind_some hf
  obtain ⟨ds, e2, hf2⟩ := bind_some hf1
  clear hf hf1
  cases e2
  refine ⟨F, ρ, As, d, rel, e1, fun v F1 H1 x1 r1 => ?_⟩
  cases d with
  | obj c' fl xs =>
    dsimp only at hf2
    split at hf2
    · rename_i hh
      obtain ⟨rfl, hm2⟩ := hh
      obtain ⟨p, dx, fvs, rfl, h1, h2, h3⟩ := id r1.obj_inv
      refine ⟨p, dx, fvs, rfl, x1.fh _ _ h1, lookup_none (by rw [h2]; exact hm2), ?_⟩
      exact meth_run (vs := []) rfl r1 (Ext.refl x1.fh) (rel.ext x1).cel .nil hf2 fun v F3 H3 A x3 r3 nd n => q v F3 H3 A (x1.trans x3) r3 nd fun a h => x1.h.free (n a h)
    · cases hf2
  | _ => cases hf2
/-! ### C(..): __init__ stores, and the object is settled -/
def initS (n m : Nat) (b : Rho → Res) (c : Str) (x : Addr) (ds : List Dat) : Option SV := if ds.length = m then match b (some (.oo x c [] []) :: startR n ds) with
    | .nx ρ => match ρ[0]? with
      | some (some sv) => some sv
      | _ => none
    | _ => none
  else none
def spI (K : PySem.W.Frag) (cm : CM) (c : Str) (g : Addr → List Dat → Option SV) : Sp := fun vs H Q E => ∃ x dx vs' H1 F ds sv, vs = .ref x :: vs' ∧ H = upd (upd H1 dx (.own x)) x (.ins (cm c) dx []) ∧ H1 x = none ∧ H1 dx = none ∧ dx ≠ x ∧ Same F H1 ∧ Cells K cm F H1 ∧ Rs K cm F vs' ds ∧ g x ds = some sv ∧
  (∃ fs xs, sv = .oo x c fs xs) ∧ ∀ F' H' A, Ext F H1 F' H' → RO K cm F' H' (.ref x) sv A → A.Nodup → (∀ a ∈ A, H1 a = none) → Q .non H'
end
section
variable {P : Program} {w : World} {K : PySem.W.Frag} {mg : Str → Option Value} {base : Heap} {cm : CM}
theorem fn_init {qual : Str} {st : Stmt} {f : Addr} {fd : FuncData} {self : Str} {N ps : List Str} {k : Nat} {g : Addr → List Dat → Option SV} {b : Rho → Res} {c : Str} (hg : g = initS N.length ps.length b c) (F : L2.Fun K "__init__" qual st f fd) (S : FnScope (self :: N) (self :: ps) (defScope st))
    (hb : ∀ (cdv : Value) (A : Around) (outer : List Env) (s : Shared) (H : Hp) (E : XK) (W : L2.WX), Room k (A.deeper (envOfC qual (defScope st) s.heap.objs.size f cdv)) → PSs (cxOf (L2.CX P w) P w K mg base (self :: N) qual (defScope st) f cdv A outer s H E).nox (defBody st) (ofS K cm W b)) :
    FnOk P w K mg base (L2.CX P w) (k + 1) f fd (self :: ps) (spI K cm c g) := by
  subst hg
  refine F.okX S (fun vs H Q E ⟨x, dx, vs', H1, F, ds, sv, ev, eH, _, _, _, e, _, rs, hg, _, k⟩ => ?_) fun cdv A outer s H vs Q E hr ⟨x, dx, vs', H1, F, ds, sv, ev, eH, hx, hdx, hne, e, cl, rs, hg, hoo, k⟩ => ?_
  · subst ev
    unfold initS at hg
    split at hg
    · rename_i c
      rw [List.length_cons, List.length_cons, rs.length, c]
    · cases hg
  · subst ev eH
    obtain ⟨fs, xs, rfl⟩ := hoo
    have hxF : F x = none := e.free hx
    have hs : Same F (upd (upd H1 dx (.own x)) x (.ins (cm c) dx [])) := fun b u h => by
      have h1 := e _ _ h
      rw [upd_ne (ne_of_none h1 hx), upd_ne (ne_of_none h1 hdx)]
      exact h1
    have xt : Ext F H1 F (upd (upd H1 dx (.own x)) x (.ins (cm c) dx [])) := ⟨Same.refl F, fun b u h => by
      rw [upd_ne (ne_of_none h hx), upd_ne (ne_of_none h hdx)]
      exact h, hs, fun a o h z => by rw [h] at z; cases z⟩
    have cl' := cl.ext xt
    have st := rel_start (N := N) hs cl' rs
    refine ⟨_, PSs.nox (hb cdv A outer s _ E (fun _ _ _ _ => False) hr), F, H1, some (.oo x c [] []) :: startR N.length ds, ⟨F, fun j => if j = 0 then [x] else [], ⟨?_, hs, fun i sv h => ?_, fun i => ?_, fun i j hij a ha => ?_, fun i a ha => ?_, cl', fun i a ha k hk => ?_⟩, xt, fun i a ha => ?_⟩, ?_⟩
    · show (L2.start (self :: N) (.ref x :: vs')).length = _
      have := st.len
      unfold L2.start at this ⊢
      simp only [List.length_append, List.length_map, List.length_cons, List.length_replicate] at this ⊢
      omega
    · cases i with
      | zero =>
        cases h
        refine ⟨.ref x, rfl, ?_⟩
        simp only [if_true]
        exact .oo (dx := dx) hxF upd_same rfl .nil
      | succ i =>
        obtain ⟨v, h1, h2⟩ := st.at_ i sv (by simpa using h)
        refine ⟨v, ?_, ?_⟩
        · unfold L2.start at h1 ⊢
          simpa using h1
        · simpa using h2
    · by_cases hi : i = 0
      · simp [hi]
      · simp [hi]
    · by_cases hi : i = 0
      · have hj : ¬ j = 0 := fun z => hij (hi.trans z.symm)
        simp [hj]
      · simp [hi] at ha
    · by_cases hi : i = 0
      · simp [hi] at ha
        subst ha
        exact ⟨hxF, _, upd_same⟩
      · simp [hi] at ha
    · by_cases hi : i = 0
      · simp [hi] at ha
        subst ha
        obtain ⟨o, q⟩ := cl.own_ hk
        rw [hx] at q
        cases q
      · simp [hi] at ha
    · by_cases hi : i = 0
      · simp [hi] at ha
        subst ha
        exact hx
      · simp [hi] at ha
    · unfold initS at hg
      split at hg
      · split at hg
        · rename_i ρ' e1
          rw [e1]
          rintro σ' H' ⟨F2, As, rel, x2, n⟩
          split at hg
          · rename_i sv e2
            cases hg
            obtain ⟨v, h1, h2⟩ := rel.at_ 0 _ e2
            obtain ⟨dx', fvs, B, rfl, _⟩ := h2.oo_inv
            exact k F2 H' (As 0) x2 h2 (rel.nd 0) (n 0)
          · cases hg
        · cases hg
      · cases hg
end
/-- what an object is, settled, wherever it is laid -/
def mkS (g : Addr → List Dat → Option SV) (c : Str) (ds : List Dat) : Option Dat := @dite _ (∃ d, ∀ x, ∃ fs xs, g x ds = some (.oo x c fs xs) ∧ frz (.oo x c fs xs) = d) (Classical.propDecidable _) (fun h => some (Classical.choose h)) fun _ => none
theorem mkS_is {g : Addr → List Dat → Option SV} {c : Str} {ds : List Dat} {d : Dat} (h : ∀ x, ∃ fs xs, g x ds = some (.oo x c fs xs) ∧ frz (.oo x c fs xs) = d) : mkS g c ds = some d := by
  unfold mkS
  have hh : ∃ d, ∀ x, ∃ fs xs, g x ds = some (.oo x c fs xs) ∧ frz (.oo x c fs xs) = d := ⟨d, h⟩
  rw [dif_pos hh]
  have q := Classical.choose_spec hh
  obtain ⟨fs, xs, h1, h2⟩ := h 0
  obtain ⟨fs', xs', h3, h4⟩ := q 0
  rw [h1] at h3
  cases h3
  rw [← h4, h2]
theorem mkS_inv {g : Addr → List Dat → Option SV} {c : Str} {ds : List Dat} {d : Dat} (h : mkS g c ds = some d) : ∀ x, ∃ fs xs, g x ds = some (.oo x c fs xs) ∧ frz (.oo x c fs xs) = d := by
  unfold mkS at h
  split at h
  · rename_i hh
    cases h
    exact Classical.choose_spec hh
  · cases h
section
variable {X : Cx} {cm : CM} {e : Expr} {es : List Expr} {fs : Rho → Option (List Dat)} {pos p : Pos} {k : Nat} {fn : Addr} {fd : FuncData} {ps : List Str} {g : Addr → List Dat → Option SV} {x c : Str}
theorem mk_run {F H : Hp} {vs : List V} {ds : List Dat} {d : Dat} {Q : VK} {E : XK} (e : Same F H) (cl : Cells X.K cm F H) (rs : Rs X.K cm F vs ds) (hg : mkS g c ds = some d) (q : ∀ v F' H', Ext F H F' H' → R X.K cm F' v d → Q v H') (x dx : Addr) (hx : H x = none) (hdx : H dx = none) (hne : dx ≠ x) :
    spI X.K cm c g (.ref x :: (vs ++ [])) (upd (upd H dx (.own x)) x (.ins (cm c) dx [])) (fun v H2 => v = .non ∧ Q (.ref x) H2) E := by
  obtain ⟨fs, xs, h1, h2⟩ := mkS_inv hg x
  rw [List.append_nil]
  refine ⟨x, dx, vs, H, F, ds, _, rfl, rfl, hx, hdx, hne, e, cl, rs, h1, ⟨fs, xs, rfl⟩, fun F' H' A x2 r nd n => ⟨rfl, ?_⟩⟩
  subst h2
  have sub : ∀ a ∈ A, F' a = none := fun a h => (r.own a h).1
  refine q _ (plus F' H' A) H' ⟨x2.f.trans (plus_same sub), x2.h, plus_le x2.fh, fun a o z w => ?_⟩ (r.frz x2.fh)
  by_cases ha : a ∈ A
  · exact n a ha
  · rw [plus_out ha] at z
    exact x2.new a o z w
theorem e_make (M : Mk X.K (cm c) fn) (G : FnOk X.prog X.w X.K X.mg X.base (L2.CX X.prog X.w) k fn fd ps (spI X.K cm c g)) (hr : Room (k + 1) X.A) (hg : Gl X x) (hm : X.mg x = some (.ref (cm c))) (hb : Binds X.K fd ps []) (ha : PA X (e :: es) (ofA X.K cm fs))
    (hdb : (x == ("__debug__" : Str)) = false := by decide) (he : starEach (e :: es) X.env = (false, eval e X.env) :: starEach es X.env := by rfl) (hpl : (backTo pos (starEach es X.env)).any (·.1) = false := by rfl) : PE X (.Call (.Name x p) (e :: es) [] pos) (ofE X.K cm (app (mkS g c) fs)) :=
  PE.imp (pe_make (E := fun _ _ _ => False) M G hr hg hm hb .nil passL ha hdb he hpl) fun σ H Q ⟨F, ρ, As, d, rel, hf, q⟩ => by
    obtain ⟨ds, e1, hf⟩ := bind_some hf
    refine ⟨F, ρ, As, ds, rel, e1, fun vs F1 H1 x1 r1 y dy h1 h2 h3 => ?_⟩
    exact mk_run x1.fh (rel.cel.ext x1) r1 hf (fun v F2 H2 x2 r2 => q v F2 H2 (x1.trans x2) r2) y dy h1 h2 h3
end
end
end Pq

namespace Pq
open PySem PySem.Spec PyProof.Rows L2
noncomputable section
/-! ### a def of one object that returns two of its fields, called from within a built-in -/
theorem key2_call {P : Program} {w : World} {K : PySem.W.Frag} {A : Around} {x qual p f1 f2 : Str} {st : Stmt} {f a C dx : Addr} {fd : FuncData} {p1 p2 p3 p4 p5 p6 : Pos} {n5 : Nat} {s : Shared} {mA : Str → Option Value} {u1 u2 : Value} {d1 d2 : PyData}
    (F : L2.Fun K x qual st f fd) (S : FnScope [p] [p] (defScope st)) (hp : (defScope st).names.lookup p = some .local) (hdb : (p == ("__debug__" : Str)) = false)
    (hbody : defBody st = [.Return (some (.Tuple [.Attribute (.Name p p1) f1 p2, .Attribute (.Name p p3) f2 p4] n5 p5)) p6]) (hb : Binds K fd [p] [])
    (KX : K.In s.heap) (lim : s.heap.NoLimit) (hroom : A.depth < recursionLimit)
    (O : ObjM s.heap a dx C mA) (hc : Cls K C) (n1 : NoAttr K C f1) (n2 : NoAttr K C f2) (h1 : mA f1 = some u1) (h2 : mA f2 = some u2) (g1 : PySem.W.handedIn u1 = true) (g2 : PySem.W.handedIn u2 = true)
    (r1 : Reads s.heap u1 d1 []) (r2 : Reads s.heap u2 d2 []) :
    wpAny (model P w) A (call (.ref f) [.ref a]) (PySem.W.KeyPure (.tuple [d1, d2]) s) (fun _ _ => False) s := by
  obtain ⟨oc, od, kV, doc, pm, an, cdv, ct, osl, rfl, lk, hcd⟩ := F.ex
  have hb1 := hb s [.ref a] KX rfl
  refine wpAny_call ?_
  refine codeAny_call_function hroom (KX _ _ lk) rfl S.co S.gen rfl (PySem.W.codeRec_of KX hcd) (hb1 _ _ _ _ ?_)
  have hkind : ∀ y ∈ [p].zip [Value.ref a], (defScope st).names.lookup y.1 = some .local ∨ ((defScope st).names.lookup y.1 = some .cell ∧ ((cellsFrom (s.heap.objs.size + 1) (defScope st).names []).lookup y.1).isSome = true) := fun ⟨n, v⟩ hy => by
    simp at hy
    rw [hy.1]
    exact .inl hp
  refine wpAny_newFunctionEnv_cells S.kind hkind fun env he s1 x1 => ?_
  subst he
  refine ⟨lim.keeps x1.toInCall.keep, codeAny_func ?_⟩
  rw [hbody]
  obtain ⟨h', tk, es, kp⟩ := x1.done
  have ns := x1.toInCall.ns
  have hm : bindL (envOfC qual (defScope st) s.heap.objs.size f cdv).kindOf [(p, Value.ref a)] (fun _ => none) p = some (.ref a) := by
    have hk : (envOfC qual (defScope st) s.heap.objs.size f cdv).kindOf p = some .local := hp
    simp [bindL, hk]
  have O1 : ObjM s1.heap a dx C mA := ⟨by rw [es]; exact kp _ _ O.obj, O.ns.keeps (by rw [es]; exact kp), O.ne⟩
  have KX1 : K.In s1.heap := KX.keeps (by rw [es]; exact kp)
  refine wpAny_execs_cons (wpAny_Return_some (wpAny_Tuple_spliced ?_))
  show wpAny _ _ (spliced ((false, eval _ _) :: (false, eval _ _) :: backTo p5 (starEach [] _))) _ _ s1
  refine Calls.spliced_cons (attr_of rfl (wpAny_Name (wpAny_loadName_local S.kind hp ns hm ?_) hdb))
  refine get_map KX1 O1 (hc.get f1) hc.hd n1 h1 g1 ?_
  refine Calls.spliced_cons (attr_of rfl (wpAny_Name (wpAny_loadName_local S.kind hp ns hm ?_) hdb))
  refine get_map (s := { s1 with toks := s1.toks + 1 }) KX1 O1 (hc.get f2) hc.hd n2 h2 g2 ?_
  refine Calls.spliced_nil ?_
  refine ⟨by show 2 ≤ sizeLine; decide +kernel, ?_⟩
  subst es
  refine ⟨h'.push { cls := .type "tuple", data := .seq #[u1, u2] }, tk + 1 + 1, rfl, fun b o e => Heap.get?_push_of_some _ (kp b o e), ?_⟩
  have z1 := PyProof.Rows.Reads.keeps (fun b o e => Heap.get?_push_of_some { cls := .type "tuple", data := .seq #[u1, u2] } (kp b o e)) r1
  have z2 := PyProof.Rows.Reads.keeps (fun b o e => Heap.get?_push_of_some { cls := .type "tuple", data := .seq #[u1, u2] } (kp b o e)) r2
  exact .tuple (as := []) (Heap.get?_push_size _ rfl) rfl rfl (.cons (as := []) (bs := []) z1 (.cons (as := []) (bs := []) z2 .nil))
/-! ### keys without lists -/
mutual
def tf : Dat → Bool
  | .non => true | .bl _ => true | .int _ => true | .str _ => true
  | .tup xs => tfs xs
  | .lst _ => false | .dct _ _ => false | .obj _ _ _ => false | .scr _ => false | .cel _ => false
def tfs : List Dat → Bool
  | [] => true
  | x :: xs => tf x && tfs xs
end
section
variable {X : Cx} {cm : CM} {pins : List (Addr × Obj)} {σ : L2.St} {F H : Hp} {s : Shared}
mutual
theorem R.readsT (I : Inv X pins σ H s) (e : Same F H) : ∀ {v : V} {d : Dat}, R X.K cm F v d → tf d = true → ∀ {u : Value}, RelV v u → Reads s.heap u (py d) []
  | _, _, .non, _, _, r => by cases r; rw [py]; exact .none
  | _, _, .bl b, _, _, r => by cases r; rw [py]; exact .bool b
  | _, _, .int i, _, _, r => by obtain ⟨t, rfl⟩ := r; rw [py]; exact .int i t
  | _, _, .str x, _, _, r => by obtain ⟨t, rfl⟩ := r; rw [py]; exact .str x t
  | _, _, .tup h rs, hp, _, r => by
    cases r
    obtain ⟨its, rv, o, ho, hc, n, hd⟩ := R.at_tup I e h
    rw [tf] at hp
    rw [py]
    exact .tuple ho hc hd (Rs.readsT I e rs hp rv)
  | _, _, .lst h rs, hp, _, r => by rw [tf] at hp; cases hp
  | _, _, .dct h k r, hp, _, _ => by rw [tf] at hp; cases hp
  | _, _, .obj h k r, hp, _, _ => by rw [tf] at hp; cases hp
  | _, _, .scr h r, hp, _, _ => by rw [tf] at hp; cases hp
  | _, _, .cel h, hp, _, _ => by rw [tf] at hp; cases hp
theorem Rs.readsT (I : Inv X pins σ H s) (e : Same F H) : ∀ {vs : List V} {ds : List Dat}, Rs X.K cm F vs ds → tfs ds = true → ∀ {us : List Value}, Vals vs us → ReadsAll s.heap us (pys ds) []
  | _, _, .nil, _, _, r => by cases r; rw [pys]; exact .nil
  | _, _, .cons r1 rs, hp, _, .cons q qs => by
    rw [tfs, Bool.and_eq_true] at hp
    have z := R.readsT I e r1 hp.1 q
    have y := Rs.readsT I e rs hp.2 qs
    rw [pys]
    exact ReadsAll.cons (as := []) (bs := []) z y
end
end
/-! ### sorted(xs, key=f), f: two fields -/
def keyD (cs : List Str) (f1 f2 : Str) (d : Dat) : Option Dat := (fldD cs f1 d).bind fun x => (fldD cs f2 d).bind fun y => if tf x && tf y then some (.tup [x, y]) else none
def keysD (cs : List Str) (f1 f2 : Str) : List Dat → Option (List Dat)
  | [] => some []
  | d :: ds => (keyD cs f1 f2 d).bind fun k => (keysD cs f1 f2 ds).bind fun ks => some (k :: ks)
def sortK (ds ks : List Dat) : List Dat := ((ds.zip ks).mergeSort fun p q => leY p.2 q.2).map (·.1)
def srtKP (ds ks : List Dat) : Prop := (∀ k ∈ ks, (py k).depth ≤ 50) ∧ PySem.W.AllAlike (ks.map py) ∧ PySem.W.Sortable (ks.map py) ∧ ds.length ≤ sizeLine
def rSrtK (K : PySem.W.Frag) (cm : CM) (cs : List Str) (f1 f2 : Str) (f : Addr) : List V → List V → Hp → VK → Prop := fun vs zs H Q => ∃ F a ws ds ks, vs = [V.ref a] ∧ zs = [V.ref f] ∧ Same F H ∧ SqL K F a ws ∧ Rs K cm F ws ds ∧ keysD cs f1 f2 ds = some ks ∧ srtKP ds ks ∧
  ∀ ws' p, H p = none → Rs K cm F ws' (sortK ds ks) → Q (.ref p) (upd H p (.lst ws'))
theorem keys_len {cs : List Str} {f1 f2 : Str} : ∀ {ds ks : List Dat}, keysD cs f1 f2 ds = some ks → ks.length = ds.length
  | [], _, h => by cases h; rfl
  | d :: ds, _, h => by
    rw [keysD] at h
    obtain ⟨k, _, h⟩ := bind_some h
    obtain ⟨ks, e, h⟩ := bind_some h
    cases h
    rw [List.length_cons, List.length_cons, keys_len e]
theorem keys_mem {cs : List Str} {f1 f2 : Str} : ∀ {ds ks : List Dat}, keysD cs f1 f2 ds = some ks → ∀ p ∈ ds.zip ks, keyD cs f1 f2 p.1 = some p.2
  | [], _, h, p, hp => by simp at hp
  | d :: ds, _, h, p, hp => by
    rw [keysD] at h
    obtain ⟨k, e1, h⟩ := bind_some h
    obtain ⟨ks, e, h⟩ := bind_some h
    cases h
    rw [List.zip_cons_cons] at hp
    rcases List.mem_cons.mp hp with z | z
    · rw [z]; exact e1
    · exact keys_mem e p z
theorem zip2 {K : PySem.W.Frag} {cm : CM} {F : Hp} : ∀ {ws : List V} {ds ks : List Dat}, Rs K cm F ws ds → ks.length = ds.length → (∀ {us : List Value}, Vals ws us → PySem.W.EachIs (fun u (b : V × (Dat × Dat)) => RelV b.1 u ∧ R K cm F b.1 b.2.1) us (ws.zip (ds.zip ks))) ∧ (ws.zip (ds.zip ks)).map (·.2) = ds.zip ks ∧ (ws.zip (ds.zip ks)).map (fun b => b.2.2) = ks ∧ (ws.zip (ds.zip ks)).length = ds.length
  | _, _, [], .nil, _ => ⟨fun r => by cases r; exact .nil, rfl, rfl, rfl⟩
  | _, _, [], .cons _ _, h => by simp at h
  | _, _, _ :: _, .nil, h => by simp at h
  | _, _, k :: ks, .cons r rs, h => by
    obtain ⟨q1, q2, q3, q4⟩ := zip2 rs (ks := ks) (by simpa using h)
    refine ⟨fun rv => ?_, ?_, ?_, ?_⟩
    · cases rv with
      | cons a b => exact .cons ⟨a, r⟩ (q1 b)
    · rw [List.zip_cons_cons, List.zip_cons_cons, List.map_cons, q2]
    · rw [List.zip_cons_cons, List.zip_cons_cons, List.map_cons, q3]
    · rw [List.zip_cons_cons, List.zip_cons_cons, List.length_cons, List.length_cons, q4]
theorem each_out2 {K : PySem.W.Frag} {cm : CM} {F : Hp} : ∀ {us : List Value} {bs : List (V × (Dat × Dat))}, PySem.W.EachIs (fun u (b : V × (Dat × Dat)) => RelV b.1 u ∧ R K cm F b.1 b.2.1) us bs → Vals (bs.map (·.1)) us ∧ Rs K cm F (bs.map (·.1)) (bs.map fun b => b.2.1)
  | _, _, .nil => ⟨.nil, .nil⟩
  | _, _, .cons h t => by
    obtain ⟨q1, q2⟩ := each_out2 t
    exact ⟨.cons h.1 q1, .cons h.2 q2⟩
theorem fld_at {X : Cx} {cm : CM} {pins : List (Addr × Obj)} {σ : L2.St} {F H : Hp} {s : Shared} (I : Inv X pins σ H s) (e : Same F H) {cs : List Str} {f1 f2 : Str} {v : V} {d k : Dat} {u : Value} (r : R X.K cm F v d) (rv : RelV v u) (h : keyD cs f1 f2 d = some k) :
    ∃ a dx c mA u1 u2 k1 k2, c ∈ cs ∧ u = .ref a ∧ ObjM s.heap a dx (cm c) mA ∧ mA f1 = some u1 ∧ mA f2 = some u2 ∧ PySem.W.handedIn u1 = true ∧ PySem.W.handedIn u2 = true ∧ Reads s.heap u1 k1 [] ∧ Reads s.heap u2 k2 [] ∧ py k = .tuple [k1, k2] := by
  obtain ⟨x, e1, h'⟩ := bind_some h
  obtain ⟨y, e2, h''⟩ := bind_some h'
  clear h h'
  by_cases ht : (tf x && tf y) = true
  case neg =>
    rw [if_neg ht] at h''
    cases h''
  rw [if_pos ht] at h''
  rw [Bool.and_eq_true] at ht
  cases h''
  cases d with
  | obj c fs xs =>
    unfold fldD at e1 e2
    dsimp only at e1 e2
    split at e1
    case isFalse => cases e1
    rename_i hc
    rw [if_pos hc] at e2
    obtain ⟨a, dx, fvs, rfl, h1, h2, h3⟩ := r.obj_inv
    rw [← h2] at e1 e2
    obtain ⟨w1, l1, q1⟩ := look_fld h3 e1
    obtain ⟨w2, l2, q2⟩ := look_fld h3 e2
    obtain ⟨mA, O, ro, _, _, _⟩ := ins_get I.hok (e _ _ h1)
    obtain ⟨u1, hu1, ru1⟩ := RelO.some_of (v := w1) (o := mA f1) (by rw [← l1]; exact ro f1)
    obtain ⟨u2, hu2, ru2⟩ := RelO.some_of (v := w2) (o := mA f2) (by rw [← l2]; exact ro f2)
    exact ⟨a, dx, c, mA, u1, u2, py x, py y, hc, rv, O, hu1, hu2, handed_of ru1, handed_of ru2, R.readsT I e q1 ht.1 ru1, R.readsT I e q2 ht.2 ru2, by simp [py, pys]⟩
  | _ => cases e1
theorem cr_srtK {X : Cx} {cm : CM} {cs : List Str} {x qual p f1 f2 : Str} {st : Stmt} {f : Addr} {fd : FuncData} {p1 p2 p3 p4 p5 p6 : Pos} {n5 : Nat} (hr : Room 1 X.A)
    (F : L2.Fun X.K x qual st f fd) (S : FnScope [p] [p] (defScope st)) (hp : (defScope st).names.lookup p = some .local) (hdb : (p == ("__debug__" : Str)) = false)
    (hbody : defBody st = [.Return (some (.Tuple [.Attribute (.Name p p1) f1 p2, .Attribute (.Name p p3) f2 p4] n5 p5)) p6]) (hb : Binds X.K fd [p] [])
    (hc : ∀ c ∈ cs, Cls X.K (cm c) ∧ NoAttr X.K (cm c) f1 ∧ NoAttr X.K (cm c) f2) : CallRK X (.builtin "sorted") [Str.ofString "key"] (rSrtK X.K cm cs f1 f2 f) := by
  intro pins s σ H vs zs us ws Q I r rz ⟨F0, a, wv, ds, ks, ev, ez, e, hs, rs, hk, ⟨b1, b2, b3, b4⟩, q⟩
  subst ev ez
  obtain ⟨its, rv, hl, _⟩ := I.list (e.seq hs)
  rw [Vals.ref1 r]
  obtain ⟨w1, rfl, ew⟩ := vals1 rz
  obtain rfl : w1 = Value.ref f := ew
  have kl := keys_len hk
  have km := keys_mem hk
  obtain ⟨z1, z2, z3, z4⟩ := zip2 rs kl
  have hm : (wv.zip (ds.zip ks)).map (fun b : V × (Dat × Dat) => py b.2.2) = ks.map py := by
    have := congrArg (List.map py) z3
    rw [List.map_map] at this
    exact this
  have e0 := I.env0
  have lim : s.heap.NoLimit := e0.mod.nolimit.keeps fun b o e => (e0.bs b o e).1
  refine PySem.W.sorted_key_data (b := false) (fun b : V × (Dat × Dat) => py b.2.2) hl.isList (z1 rv) (by rw [hm]; exact b2) (by rw [hm]; exact b3) (by rw [z4]; exact b4) (fun b hb' => ?_) (ksk_s1 _ _) (fun _ => ksk_l1 _ _) (fun _ => ksk_t1 _ _) (fun u b ⟨ru, rb⟩ hbm h tk kp => ?_) fun out c h' tk kp _ hD ho eo => ?_
  · have := b1 b.2.2 (by rw [← z3]; exact List.mem_map_of_mem hb')
    have := hr.un
    omega
  · have hz : b.2 ∈ ds.zip ks := by rw [← z2]; exact List.mem_map_of_mem hbm
    obtain ⟨a', dx, cc, mA, u1, u2, k1, k2, hcc, rfl, O, hu1, hu2, g1, g2, r1, r2, epy⟩ := fld_at I e rb ru (km b.2 hz)
    rw [epy]
    obtain ⟨c1, c2, c3⟩ := hc cc hcc
    exact key2_call (s := { s with heap := h, toks := tk }) F S hp hdb hbody hb (I.kIn.keeps kp) (lim.keeps kp) (by have := hr.dp; show X.A.depth < _; omega) ⟨kp _ _ O.obj, O.ns.keeps kp, O.ne⟩ c1 c2 c3 hu1 hu2 g1 g2 (PyProof.Rows.Reads.keeps kp r1) (PyProof.Rows.Reads.keeps kp r2)
  obtain ⟨q1, q2⟩ := each_out2 eo
  have e2 : ((wv.zip (ds.zip ks)).mergeSort (PySem.W.dataLe false fun b : V × (Dat × Dat) => py b.2.2)).map (fun b => b.2.1) = sortK ds ks := by
    have zz : ((wv.zip (ds.zip ks)).mergeSort (PySem.W.dataLe false fun b : V × (Dat × Dat) => py b.2.2)).map (fun b => b.2) = (ds.zip ks).mergeSort fun p q => leY p.2 q.2 := by
      rw [List.map_mergeSort (r := PySem.W.dataLe false fun b : V × (Dat × Dat) => py b.2.2) (s := fun p q : Dat × Dat => leY p.2 q.2) (f := fun b : V × (Dat × Dat) => b.2) (fun _ _ _ _ => rfl), z2]
    unfold sortK
    rw [← zz, List.map_map]
    rfl
  rw [e2] at q2
  have hlen : (((wv.zip (ds.zip ks)).mergeSort (PySem.W.dataLe false fun b : V × (Dat × Dat) => py b.2.2)).map (·.1)).length ≤ sizeLine := by rw [q1.length, ho, z4]; exact b4
  exact ⟨.ref _, upd H (s.heap.objs.size + 1) (.lst _), I.laid (t' := tk) kp (Nat.le_succ _) ⟨hlen, out, c, q1, hD⟩, rfl, q _ _ (I.hok.fresh (Nat.le_succ _)) q2⟩
end
end Pq

namespace Pq
open PySem PySem.Spec PyProof.Rows L2
noncomputable section
section
variable {X : Cx} {cm : CM} {W : L2.WX} {a b e : Expr} {es : List Expr} {fa fb f : Rho → Option Dat} {fs : Rho → Option (List Dat)} {pos p : Pos}
/-! ### sorted(xs, key=f) -/
def sortKD (cs : List Str) (f1 f2 : Str) (d : Dat) : Option Dat := match d with
  | .lst ds => (keysD cs f1 f2 ds).bind fun ks => @ite _ (srtKP ds ks) (Classical.propDecidable _) (some (.lst (sortK ds ks))) none
  | _ => none
theorem e_sortK {cs : List Str} {x qual q f1 f2 : Str} {st : Stmt} {fn : Addr} {fd : FuncData} {p1 p2 p3 p4 p5 p6 kp1 kp2 : Pos} {n5 : Nat} (hr : Room 1 X.A)
    (F : L2.Fun X.K x qual st fn fd) (S : FnScope [q] [q] (defScope st)) (hb : Binds X.K fd [q] []) (hgf : Gl X x) (hmf : X.mg x = some (.ref fn))
    (hc : ∀ c ∈ cs, Cls X.K (cm c) ∧ NoAttr X.K (cm c) f1 ∧ NoAttr X.K (cm c) f2) (hg : Gl X "sorted") (hm : X.mg "sorted" = none) (ha : PE X a (ofE X.K cm fa))
    (hbody : defBody st = [.Return (some (.Tuple [.Attribute (.Name q p1) f1 p2, .Attribute (.Name q p3) f2 p4] n5 p5)) p6] := by rfl) (hp : (defScope st).names.lookup q = some .local := by rfl) (hdb : (q == ("__debug__" : Str)) = false := by decide) (hdx : (x == ("__debug__" : Str)) = false := by decide)
    (he : backTo pos (starEach [a] X.env) = (false, eval a X.env) :: backTo pos (starEach [] X.env) := by rfl) (hpl : (backTo pos (starEach [a] X.env)).any (·.1) = false := by rfl)
    (hall : (backToKw pos (keywordEach [⟨some "key", .Name x kp1, kp2⟩] X.env)).all (·.1.isSome) = true := by rfl) (hnone : (backToKw pos (keywordEach [⟨some "key", .Name x kp1, kp2⟩] X.env)).any (·.1.isNone) = false := by rfl) (hks : (backToKw pos (keywordEach [⟨some "key", .Name x kp1, kp2⟩] X.env)).filterMap (·.1) = [Str.ofString "key"] := by rfl)
    (hst : starEach [a] X.env = (false, eval a X.env) :: starEach [] X.env := by rfl) : PE X (.Call (.Name "sorted" p) [a] [⟨some "key", .Name x kp1, kp2⟩] pos) (ofE X.K cm (un (sortKD cs f1 f2) fa)) :=
  PE.imp (pe_callBK (cr_srtK (cm := cm) (cs := cs) hr F S hp hdb hbody hb hc) hg hm (by decide +kernel) (pa_cons ha pa_nil hst) (pk_cons (pe_glob (v := .ref fn) hgf hmf rfl hdx) pk_nil) (by decide) (by decide) he hpl hall hnone hks) fun σ H Q ⟨F0, ρ, As, d, rel, hf, k⟩ => by
    obtain ⟨x', e1, hf'⟩ := bind_some hf
    clear hf
    refine ⟨F0, ρ, As, x', rel, e1, fun v F1 H1 x1 r1 => ?_⟩
    unfold sortKD at hf'
    split at hf'
    · obtain ⟨ks, e2, hf2⟩ := bind_some hf'
      obtain ⟨c, rfl⟩ := ite_some hf2
      obtain ⟨l, ws, rfl, g, q1⟩ := r1.lst_inv
      exact ⟨F1, l, ws, _, ks, rfl, rfl, x1.fh, .inl g, q1, e2, c, fun ws' p hp r' => new_lst x1.fh r' (fun v F2 H2 x2 r2 => k v F2 H2 (x1.trans x2) r2) p hp⟩
    · cases hf'
/-! ### {} -/
theorem o_dnew : PE X (.Dict [] [] pos) (ofO X.K cm fun _ => some (.od [] [])) := PE.imp pe_dnewK fun σ H Q ⟨F, ρ, As, sv, rel, hf, k⟩ => by
  cases hf
  exact fun q hq => k _ F _ [q] (Ext.open rel.fh hq) (.od (rel.fh.free hq) upd_same rfl .nil) (by simp) (by simpa using hq)
theorem e_dnew : PE X (.Dict [] [] pos) (ofE X.K cm (kD (.dct [] []))) := PE.imp pe_dnewK fun σ H Q ⟨F, ρ, As, sv, rel, hf, k⟩ => by
  cases hf
  exact fun q hq => k _ _ _ (Ext.laid rel.fh hq) (.dct (.inl upd_same) rfl .nil)
/-! ### dict(d) -/
def dictD : List Dat → Option Dat
  | [.dct ks xs] => some (.dct ks xs)
  | _ => none
def dictO : List Dat → Option SV
  | [.dct ks xs] => some (.od ks (xs.map SV.fro))
  | _ => none
theorem cd_dict : ClD X cm (fun xs H Q => ∃ (a : Addr) (kvs : List (Key × V)), xs = [.ref a] ∧ Rd H a (.dK kvs) ∧ ∀ p, H p = none → Q (.ref p) (upd H p (.dK kvs))) dictD := fun F H vs ds d Q e rs hg k => by
  unfold dictD at hg
  split at hg
  · cases hg
    obtain ⟨v, rfl, r⟩ := rs.one
    obtain ⟨a, kvs, rfl, g, ek, z⟩ := r.dct_inv
    exact ⟨a, kvs, rfl, same_rd e g, fun q hq => k _ _ _ (Ext.laid e hq) (.dct (.inl upd_same) ek (z.mono (same_new (e.free hq))))⟩
  · cases hg
theorem co_dict : ClO X cm (fun xs H Q => ∃ (a : Addr) (kvs : List (Key × V)), xs = [.ref a] ∧ Rd H a (.dK kvs) ∧ ∀ p, H p = none → Q (.ref p) (upd H p (.dK kvs))) dictO := fun F H vs ds d Q e rs hg k => by
  unfold dictO at hg
  split at hg
  · cases hg
    obtain ⟨v, rfl, r⟩ := rs.one
    obtain ⟨a, kvs, rfl, g, ek, z⟩ := r.dct_inv
    exact ⟨a, kvs, rfl, same_rd e g, fun q hq => k _ F _ [q] (Ext.open e hq) (.od (e.free hq) upd_same ek (ros_fro z)) (by simp) (by simpa using hq)⟩
  · cases hg
theorem e_dict (hg : Gl X "dict") (hm : X.mg "dict" = none) (ha : PA X (e :: es) (ofA X.K cm fs)) (he : starEach (e :: es) X.env = (false, eval e X.env) :: starEach es X.env := by rfl) (hpl : (backTo pos (starEach es X.env)).any (·.1) = false := by rfl) :
    PE X (.Call (.Name "dict" p) (e :: es) [] pos) (ofE X.K cm (app dictD fs)) := e_callT call_dictD cd_dict hg hm (by decide +kernel) ha (by decide) (by decide) he hpl
theorem o_dict (hg : Gl X "dict") (hm : X.mg "dict" = none) (ha : PA X (e :: es) (ofA X.K cm fs)) (he : starEach (e :: es) X.env = (false, eval e X.env) :: starEach es X.env := by rfl) (hpl : (backTo pos (starEach es X.env)).any (·.1) = false := by rfl) :
    PE X (.Call (.Name "dict" p) (e :: es) [] pos) (ofO X.K cm (appO dictO fs)) := o_callT call_dictD co_dict hg hm (by decide +kernel) ha (by decide) (by decide) he hpl
/-! ### d.get(k), d.get(k, x) -/
def get1D : Dat → Dat → Option Dat
  | .dct ks xs, k => (isK k).bind fun j => some ((look ks xs j).getD .non)
  | _, _ => none
theorem look_get {K : PySem.W.Frag} {F : Hp} {k : Key} : ∀ {kvs : List (Key × V)} {xs : List Dat}, Rs K cm F (kvs.map (·.2)) xs → (look (kvs.map (·.1)) xs k = none ∧ valV kvs k = none) ∨ ∃ v x, valV kvs k = some v ∧ look (kvs.map (·.1)) xs k = some x ∧ R K cm F v x
  | [], _, _ => .inl ⟨by simp [look], rfl⟩
  | p :: kvs, [], r => by cases r
  | p :: kvs, x' :: xs, .cons r t => by
    rw [List.map_cons, look]
    by_cases hk : p.1 = k
    · rw [if_pos hk]
      exact .inr ⟨p.2, x', valV_pos hk, rfl, r⟩
    · rw [if_neg hk, valV_neg hk]
      exact look_get t
theorem e_get1 {apos : Pos} (hu : X.A.units + 1 < cLine) (ha : PE X a (ofE X.K cm fa)) (hb : PE X b (ofE X.K cm fb)) (m : M1 X a "get" apos b pos := by exact ⟨rfl, rfl, rfl, rfl⟩) : PE X (.Call (.Attribute a "get" apos) [b] [] pos) (ofE X.K cm (bin get1D fa fb)) := PE.imp (pe_dget1 hu ha hb m) fun σ H Q ⟨F, ρ, As, d, rel, hf, k⟩ => by
  obtain ⟨x, e1, hf1⟩ := bind_some hf
  obtain ⟨y, e2, hf2⟩ := bind_some hf1
  clear hf hf1
  refine ⟨F, ρ, As, x, rel, e1, fun v F1 H1 x1 r1 => ?_⟩
  unfold get1D at hf2
  split at hf2
  · obtain ⟨j, e3, hf3⟩ := bind_some hf2
    cases hf3
    obtain ⟨q, kvs, rfl, g, ek, z⟩ := r1.dct_inv
    have hd : IsD H1 q := .inl ⟨_, same_rd x1.fh g⟩
    refine ⟨q, rfl, hd, F1, ρ, As, _, rel.ext x1, e2, fun w F2 H2 x2 r2 => ?_⟩
    have ew := isK_V r2 e3
    subst ew
    subst ek
    refine ⟨valV kvs j, .inl ⟨kvs, j, same_rd (x2.f.trans x2.fh) g, rfl, rfl⟩, ?_⟩
    rcases look_get (k := j) z with ⟨l1, l2⟩ | ⟨w, x', l1, l2, l3⟩
    · rw [l2]
      rw [l1] at k
      exact k .non F2 H2 (x1.trans x2) .non
    · rw [l1]
      rw [l2] at k
      exact k w F2 H2 (x1.trans x2) (l3.mono x2.f)
  · cases hf2
/-! ### any, all of a list of truth values -/
def bls : List Dat → Option (List Bool)
  | [] => some []
  | .bl k :: xs => (bls xs).bind fun ks => some (k :: ks)
  | _ :: _ => none
theorem rs_bls {K : PySem.W.Frag} {F : Hp} : ∀ {vs : List V} {xs : List Dat} {ys : List Bool}, Rs K cm F vs xs → bls xs = some ys → vs = ys.map V.bl
  | _, _, _, .nil, h => by cases h; rfl
  | _, _, _, .cons r t, h => by
    unfold bls at h
    split at h
    · rename_i h'; cases h'
    · rename_i h'
      cases h'
      obtain ⟨ys', e, h⟩ := bind_some h
      cases h
      rw [r.bl_inv, rs_bls t e]
      rfl
    · cases h
def anyD : List Dat → Option Dat
  | [.lst xs] => (bls xs).bind fun ks => some (.bl (ks.any id))
  | _ => none
def allD : List Dat → Option Dat
  | [.lst xs] => (bls xs).bind fun ks => some (.bl (ks.all id))
  | _ => none
theorem cd_any : ClD X cm (rAny X.K) anyD := fun F H vs ds d Q e rs hg k => by
  unfold anyD at hg
  split at hg
  · obtain ⟨ks, e1, hg'⟩ := bind_some hg
    cases hg'
    obtain ⟨v, rfl, r⟩ := rs.one
    obtain ⟨a, ws, rfl, h, q⟩ := r.lst_inv
    have := rs_bls q e1
    subst this
    exact ⟨a, ks, rfl, .inl (same_rd e h), k _ F H (Ext.refl e) (.bl _)⟩
  · cases hg
theorem cd_all : ClD X cm (rAll X.K) allD := fun F H vs ds d Q e rs hg k => by
  unfold allD at hg
  split at hg
  · obtain ⟨ks, e1, hg'⟩ := bind_some hg
    cases hg'
    obtain ⟨v, rfl, r⟩ := rs.one
    obtain ⟨a, ws, rfl, h, q⟩ := r.lst_inv
    have := rs_bls q e1
    subst this
    exact ⟨a, ks, rfl, .inl (same_rd e h), k _ F H (Ext.refl e) (.bl _)⟩
  · cases hg
theorem e_any (hc : X.calm = true) (hg : Gl X "any") (hm : X.mg "any" = none) (ha : PA X (e :: es) (ofA X.K cm fs)) (he : starEach (e :: es) X.env = (false, eval e X.env) :: starEach es X.env := by rfl) (hpl : (backTo pos (starEach es X.env)).any (·.1) = false := by rfl) :
    PE X (.Call (.Name "any" p) (e :: es) [] pos) (ofE X.K cm (app anyD fs)) := e_callB (cr_any hc) cd_any hg hm (by decide +kernel) ha (by decide) (by decide) he hpl
theorem e_all (hc : X.calm = true) (hg : Gl X "all") (hm : X.mg "all" = none) (ha : PA X (e :: es) (ofA X.K cm fs)) (he : starEach (e :: es) X.env = (false, eval e X.env) :: starEach es X.env := by rfl) (hpl : (backTo pos (starEach es X.env)).any (·.1) = false := by rfl) :
    PE X (.Call (.Name "all" p) (e :: es) [] pos) (ofE X.K cm (app allD fs)) := e_callB (cr_all hc) cd_all hg hm (by decide +kernel) ha (by decide) (by decide) he hpl
/-! ### place[k] = e, a dict of one's own -/
def putV : List Key → List SV → Key → SV → List SV
  | k' :: ks, y :: xs, k, x => if k' = k then x :: putV ks xs k x else y :: putV ks xs k x
  | _, _, _, _ => []
def froAt : List Key → List SV → Key → Bool
  | k' :: ks, y :: xs, k => (if k' = k then isFro y else true) && froAt ks xs k
  | _, _, _ => true
def putKD (ks : List Key) (xs : List SV) (k : Key) (x : SV) : List Key × List SV := if (ks.any fun j => decide (j = k)) = true then (ks, putV ks xs k x) else (ks ++ [k], xs ++ [x])
theorem put_in {K : PySem.W.Frag} {F H : Hp} {w : V} {d : Dat} {k : Key} (r : R K cm F w d) : ∀ {kvs : List (Key × V)} {xs : List SV} {A : List Addr}, ROs K cm F H (kvs.map (·.2)) xs A → froAt (kvs.map (·.1)) xs k = true → ROs K cm F H ((kvs.map fun kv => if kv.1 = k then (kv.1, w) else kv).map (·.2)) (putV (kvs.map (·.1)) xs k (.fro d)) A
  | [], _, _, .nil, _ => .nil
  | (k', v') :: kvs, _, _, .cons (x := x) q t, h => by
    rw [List.map_cons, froAt, Bool.and_eq_true] at h
    have ih := put_in r t h.2
    rw [List.map_cons, List.map_cons, List.map_cons, putV]
    dsimp only at h q ⊢
    by_cases hk : k' = k
    · rw [if_pos hk, if_pos hk]
      have hx := h.1
      rw [if_pos hk] at hx
      cases q with
      | fro _ => exact .cons (A := []) (.fro r) ih
      | _ => cases hx
    · rw [if_neg hk, if_neg hk]
      exact .cons q ih
theorem put_keys (k : Key) (w : V) : ∀ kvs : List (Key × V), (kvs.map fun kv => if kv.1 = k then (kv.1, w) else kv).map (·.1) = kvs.map (·.1)
  | [] => rfl
  | p :: kvs => by
    rw [List.map_cons, List.map_cons, List.map_cons, put_keys k w kvs]
    by_cases hk : p.1 = k
    · rw [if_pos hk]
    · rw [if_neg hk]
def setDl (i : Nat) (p : List Stp) (fk f : Rho → Option Dat) : Rho → Res := fun ρ => match f ρ with
  | some d => match fk ρ with
    | some kd => match isK kd with
      | some k => match ρ[i]? with
        | some (some sv) => match getP sv p with
          | some (.od ks xs) => @ite _ (ks.length < sizeLine ∧ froAt ks xs k = true) (Classical.propDecidable _) (match putP sv p (.od (putKD ks xs k (.fro d)).1 (putKD ks xs k (.fro d)).2) with
            | some sv' => .nx (ρ.set i (some sv'))
            | none => .bad) .bad
          | _ => .bad
        | _ => .bad
      | none => .bad
    | none => .bad
  | none => .bad
theorem RO.od_inv {K : PySem.W.Frag} {F H : Hp} {v : V} {ks : List Key} {xs : List SV} {A : List Addr} (h : RO K cm F H v (.od ks xs) A) : ∃ a kvs B, v = .ref a ∧ A = a :: B ∧ F a = none ∧ H a = some (.dK kvs) ∧ kvs.map (·.1) = ks ∧ ROs K cm F H (kvs.map (·.2)) xs B := by
  cases h with
  | od n h k r => exact ⟨_, _, _, rfl, rfl, n, h, k, r⟩
theorem p_setDl (i : Nat) (pt : List Stp) {pos' : Pos} {fk : Rho → Option Dat} (hu : X.A.units + 1 < cLine) (hp : PE X e (tPl X.K cm i pt)) (hk : PE X b (ofE X.K cm fk)) (ha : PE X a (ofE X.K cm f)) (hs : swapsWith a (some (.Subscript e b pos')) pos.line X.env = pure false := by rfl) :
    PS X (.Assign [.Subscript e b pos'] a pos) (ofS X.K cm W (setDl i pt fk f)) := PS.imp (ps_dput hu hp hk ha hs) fun D σ H ⟨F0, H0, ρ, ⟨F, As, rel, x, n⟩, q⟩ => by
  unfold setDl at q
  split at q
  case h_2 => exact q.elim
  rename_i d e1
  split at q
  case h_2 => exact q.elim
  rename_i kd e0
  split at q
  case h_2 => exact q.elim
  rename_i k ek
  split at q
  case h_2 => exact q.elim
  rename_i sv e2
  split at q
  case h_2 => exact q.elim
  rename_i ks xs e3
  split at q
  case isFalse => exact q.elim
  rename_i hz
  obtain ⟨v0, h1, r1⟩ := rel.at_ i _ e2
  refine ⟨F, ρ, As, d, rel, e1, fun w F1 H1 x1 r2 => ?_⟩
  refine ⟨F1, ρ, As, sv, v0, _, rel.ext x1, e2, h1, e3, fun v B l => ?_⟩
  refine ⟨F1, ρ, As, kd, rel.ext x1, e0, fun u F2 H2 x2 r3 => ?_⟩
  have eu := isK_V r3 ek
  subst eu
  obtain ⟨c, kvs, C, rfl, eB, nF, hH, hks, rs⟩ := l.ro.od_inv
  have hH2 := x2.h _ _ hH
  refine ⟨c, _, rfl, DPut.k hH2 (by rw [← List.length_map (f := (·.1)), hks]; exact hz.1), ?_⟩
  have lB : c ∈ B := by rw [eB]; exact List.mem_cons_self
  have lA := l.sub c lB
  have hF2 := ext_none x2 hH nF
  have cC : c ∉ C := by
    have ndB := l.nd
    rw [eB] at ndB
    exact (List.nodup_cons.mp ndB).1
  subst hks
  obtain ⟨sv', ep, rp⟩ := l.put F2 H2 c (.dK (putK kvs k w)) (.od (putKD (kvs.map (·.1)) xs k (.fro d)).1 (putKD (kvs.map (·.1)) xs k (.fro d)).2) x2 lB (by
    rw [eB]
    have rs2 := (rs.ext x2).out (o := .dK (putK kvs k w)) cC
    have rw2 := r2.mono x2.f
    have hany2 : ((kvs.map (·.1)).any fun j => decide (j = k)) = kvs.any fun kv => decide (kv.1 = k) := by rw [List.any_map]; rfl
    by_cases hm : ((kvs.map (·.1)).any fun j => decide (j = k)) = true
    · have e4 : putKD (kvs.map (·.1)) xs k (.fro d) = (kvs.map (·.1), putV (kvs.map (·.1)) xs k (.fro d)) := if_pos hm
      have hany : (kvs.any fun kv => decide (kv.1 = k)) = true := by rw [← hany2]; exact hm
      have e5 : putK kvs k w = kvs.map fun kv => if kv.1 = k then (kv.1, w) else kv := if_pos hany
      rw [e4]
      refine .od hF2 upd_same (by rw [e5]; exact put_keys k w kvs) ?_
      rw [e5] at rs2 ⊢
      exact put_in rw2 rs2 hz.2
    · have e4 : putKD (kvs.map (·.1)) xs k (.fro d) = (kvs.map (·.1) ++ [k], xs ++ [.fro d]) := if_neg hm
      have hany : ¬ (kvs.any fun kv => decide (kv.1 = k)) = true := by rw [← hany2]; exact hm
      have e5 : putK kvs k w = kvs ++ [(k, w)] := if_neg hany
      rw [e4]
      refine .od hF2 upd_same (by rw [e5, List.map_append]; rfl) ?_
      rw [e5] at rs2 ⊢
      rw [List.map_append]
      exact ROs.snoc rw2 rs2)
  rw [ep] at q
  exact q _ _ ⟨F2, As, (rel.ext (x1.trans x2)).upd lA e2 h1 rp, ext_upd (x.trans (x1.trans x2)) hF2 (n i c lA), n⟩
end
/-! ### what is not carried, where nothing comes -/
def badS : Rho → Res := fun _ => .bad
theorem p_bad {X : Cx} {cm : CM} {W : L2.WX} {st : Stmt} : PS X st (ofS X.K cm W badS) := ⟨fun pins s σ H D I h => by
  obtain ⟨_, _, _, _, h⟩ := h
  exact h.elim⟩
end
end Pq

namespace Pq
open PySem PySem.Spec PyProof.Rows L2
noncomputable section
/-! ### d == d', d != d' of dicts with plain values -/
def hitsD (ks' : List Key) (ys : List Dat) : List Key → List Dat → Bool
  | k :: ks, x :: xs => match look ks' ys k with
    | none => false
    | some y => PyData.eqv (py x) (py y) && hitsD ks' ys ks xs
  | _, _ => true
def dctEq (ks : List Key) (xs : List Dat) (ks' : List Key) (ys : List Dat) : Bool := ks.length == ks'.length && hitsD ks' ys ks xs
mutual
theorem py_plain : ∀ d : Dat, pl d = true → (py d).plain = true
  | .non, _ => by rw [py]; rfl
  | .bl _, _ => by rw [py]; rfl
  | .int _, _ => by rw [py]; rfl
  | .str _, _ => by rw [py]; rfl
  | .lst xs, h => by
    rw [pl] at h
    rw [py]
    show PyData.plainAll (pys xs) = true
    exact pys_plain xs h
  | .tup xs, h => by
    rw [pl] at h
    rw [py]
    show PyData.plainAll (pys xs) = true
    exact pys_plain xs h
  | .dct _ _, h => by rw [pl] at h; cases h
  | .obj _ _ _, h => by rw [pl] at h; cases h
  | .scr _, h => by rw [pl] at h; cases h
  | .cel _, h => by rw [pl] at h; cases h
theorem pys_plain : ∀ xs : List Dat, pls xs = true → PyData.plainAll (pys xs) = true
  | [], _ => by rw [pys]; rfl
  | x :: xs, h => by
    rw [pls, Bool.and_eq_true] at h
    rw [pys]
    show (PyData.plain (py x) && PyData.plainAll (pys xs)) = true
    rw [py_plain x h.1, pys_plain xs h.2]
    rfl
end
section
variable {X : Cx} {cm : CM} {pins : List (Addr × Obj)} {σ : L2.St} {F H : Hp} {s : Shared} {A : Around}
theorem kv_at {k : Key} : ∀ {kvs : List (Key × V)} {us : List (Key × Value)}, KV kvs us → (valV kvs k = none ∧ PySem.valueAt us k = none) ∨ ∃ v u, valV kvs k = some v ∧ PySem.valueAt us k = some u ∧ RelV v u
  | [], [], .nil => .inl ⟨rfl, rfl⟩
  | (k1, v) :: kvs, (k2, u) :: us, .cons h t => by
    obtain ⟨e, r⟩ := h
    dsimp only at e r
    subst e
    by_cases hk : k1 = k
    · refine .inr ⟨v, u, valV_pos hk, ?_, r⟩
      simp [PySem.valueAt, hk]
    · rw [valV_neg (p := (k1, v)) hk]
      have : PySem.valueAt ((k1, u) :: us) k = PySem.valueAt us k := by simp [PySem.valueAt, hk]
      rw [this]
      exact kv_at t
theorem hits_of (I : Inv X pins σ H s) (e : Same F H) (hu : A.units + 64 < cLine) {ks' : List Key} {ys : List Dat} {kvs' : List (Key × V)} {us' : List (Key × Value)} (ek' : kvs'.map (·.1) = ks') (r' : Rs X.K cm F (kvs'.map (·.2)) ys) (q' : KV kvs' us') (p' : ∀ y ∈ ys, pl y = true) :
    ∀ {kvs : List (Key × V)} {xs : List Dat} {us : List (Key × Value)}, Rs X.K cm F (kvs.map (·.2)) xs → KV kvs us → (∀ x ∈ xs, pl x = true ∧ (py x).depth ≤ 50) → PySem.W.KeqHits A s us' us (hitsD ks' ys (kvs.map (·.1)) xs)
  | [], [], [], .nil, .nil, _ => .nil
  | (k, v) :: kvs, x :: xs, (k2, u) :: us, .cons r rs, .cons h t, hp => by
    obtain ⟨ek, ru⟩ := h
    dsimp only at ek ru
    subst ek
    have ih := hits_of I e hu ek' r' q' p' rs t fun y hy => hp y (List.mem_cons_of_mem _ hy)
    rw [List.map_cons, hitsD]
    rcases look_get (k := k) r' with ⟨l1, l2⟩ | ⟨w, y, l1, l2, l3⟩
    · rw [ek'] at l1
      rw [l1]
      rcases kv_at (k := k) q' with ⟨m1, m2⟩ | ⟨v', u', m1, m2, m3⟩
      · exact .miss m2
      · rw [l2] at m1; cases m1
    · rw [ek'] at l2
      rw [l2]
      rcases kv_at (k := k) q' with ⟨m1, m2⟩ | ⟨v', u', m1, m2, m3⟩
      · rw [l1] at m1; cases m1
      · rw [l1] at m1
        cases m1
        have hy : y ∈ ys := by
          clear l1 l3 m2 m3 ih rs r' q' ek'
          induction ks' generalizing ys with
          | nil => simp [look] at l2
          | cons k0 ks0 ihk =>
            cases ys with
            | nil => simp [look] at l2
            | cons y0 ys0 =>
              rw [look] at l2
              split at l2
              · cases l2; exact List.mem_cons_self
              · exact List.mem_cons_of_mem _ (ihk (fun z hz => p' z (List.mem_cons_of_mem _ hz)) l2)
        obtain ⟨as, z1⟩ := R.reads I e r (hp x List.mem_cons_self).1 ru
        obtain ⟨bs, z2⟩ := R.reads I e l3 (p' y hy) m3
        refine .hit m2 (PySem.SeqAt.eqAt_plain (py x) (py y) A s u u' as bs z1 z2 (py_plain x (hp x List.mem_cons_self).1) (py_plain y (p' y hy)) ?_) ih
        have := (hp x List.mem_cons_self).2
        omega
def okDct (xs ys : List Dat) : Prop := (∀ x ∈ xs, pl x = true ∧ (py x).depth ≤ 50) ∧ ∀ y ∈ ys, pl y = true
def rDct (K : PySem.W.Frag) (cm : CM) (neg : Bool) : R2 := fun x y H Q => ∃ F ks xs ks' ys, Same F H ∧ R K cm F x (.dct ks xs) ∧ R K cm F y (.dct ks' ys) ∧ okDct xs ys ∧ Q (.bl (if neg then !dctEq ks xs ks' ys else dctEq ks xs ks' ys)) H
theorem op_eqDct (hu : X.A.units + 70 < cLine) : OpR X (compareOp .Eq) (rDct X.K cm false) := by
  intro pins s σ H x y v u Q I rx ry ⟨F, ks, xs, ks', ys, e, r1, r2, ⟨p1, p2⟩, q⟩
  obtain ⟨a, kvs, rfl, g, ek, z⟩ := r1.dct_inv
  obtain ⟨b, kvs', rfl, g', ek', z'⟩ := r2.dct_inv
  cases rx
  cases ry
  obtain ⟨_, n1, us, q1, d1⟩ := dk_rd I.hok (same_rd e g)
  obtain ⟨_, n2, us', q2, d2⟩ := dk_rd I.hok (same_rd e g')
  subst ek ek'
  have hits := hits_of (A := X.A.in1) I e (by show X.A.units + 1 + 64 < cLine; omega) rfl z' q2 p2 z q1 p1
  refine PySem.W.keq_eq n1 n2 d1 d2 (by omega) (fun _ => hits) ?_
  rw [← Paired.length q1, ← Paired.length q2]
  have : (kvs.length == kvs'.length) = ((kvs.map (·.1)).length == (kvs'.map (·.1)).length) := by rw [List.length_map, List.length_map]
  rw [this]
  exact ⟨.bl _, H, I, rfl, q⟩
theorem op_neDct (hu : X.A.units + 70 < cLine) : OpR X (compareOp .NotEq) (rDct X.K cm true) := by
  intro pins s σ H x y v u Q I rx ry ⟨F, ks, xs, ks', ys, e, r1, r2, ⟨p1, p2⟩, q⟩
  obtain ⟨a, kvs, rfl, g, ek, z⟩ := r1.dct_inv
  obtain ⟨b, kvs', rfl, g', ek', z'⟩ := r2.dct_inv
  cases rx
  cases ry
  obtain ⟨_, n1, us, q1, d1⟩ := dk_rd I.hok (same_rd e g)
  obtain ⟨_, n2, us', q2, d2⟩ := dk_rd I.hok (same_rd e g')
  subst ek ek'
  have hits := hits_of (A := X.A.in1) I e (by show X.A.units + 1 + 64 < cLine; omega) rfl z' q2 p2 z q1 p1
  refine PySem.W.keq_ne n1 n2 d1 d2 (by omega) (fun _ => hits) ?_
  rw [← Paired.length q1, ← Paired.length q2]
  have : (kvs.length == kvs'.length) = ((kvs.map (·.1)).length == (kvs'.map (·.1)).length) := by rw [List.length_map, List.length_map]
  rw [this]
  exact ⟨.bl _, H, I, rfl, q⟩
end
section
variable {X : Cx} {cm : CM} {W : L2.WX} {a b e : Expr} {es : List Expr} {fa fb f : Rho → Option Dat} {fs : Rho → Option (List Dat)} {pos p : Pos}
def eqX (d d' : Dat) : Option Dat := match d, d' with
  | .dct ks xs, .dct ks' ys => @ite _ (okDct xs ys) (Classical.propDecidable _) (some (.bl (dctEq ks xs ks' ys))) none
  | d, d' => eqD d d'
def neX (d d' : Dat) : Option Dat := match d, d' with
  | .dct ks xs, .dct ks' ys => @ite _ (okDct xs ys) (Classical.propDecidable _) (some (.bl (!dctEq ks xs ks' ys))) none
  | d, d' => neD d d'
theorem op_eqX (hu : X.A.units + 70 < cLine) : OpR X (compareOp .Eq) (fun x y H Q => rDct X.K cm false x y H Q ∨ rDat X.K cm okEq eqb x y H Q) := (op_eqDct hu).or (op_deq (by omega))
theorem op_neX (hu : X.A.units + 70 < cLine) : OpR X (compareOp .NotEq) (fun x y H Q => rDct X.K cm true x y H Q ∨ rDat X.K cm okEq (fun d d' => !eqb d d') x y H Q) := (op_neDct hu).or (op_dne (by omega))
theorem od_eqX : OpD X cm (fun x y H Q => rDct X.K cm false x y H Q ∨ rDat X.K cm okEq eqb x y H Q) eqX := fun F H x y a b d Q e r1 r2 hg k => by
  unfold eqX at hg
  split at hg
  · obtain ⟨c, rfl⟩ := ite_some hg
    exact .inl ⟨F, _, _, _, _, e, r1, r2, c, k _ F H (Ext.refl e) (.bl _)⟩
  · exact .inr (od_eq F H x y _ _ d Q e r1 r2 hg k)
theorem od_neX : OpD X cm (fun x y H Q => rDct X.K cm true x y H Q ∨ rDat X.K cm okEq (fun d d' => !eqb d d') x y H Q) neX := fun F H x y a b d Q e r1 r2 hg k => by
  unfold neX at hg
  split at hg
  · obtain ⟨c, rfl⟩ := ite_some hg
    exact .inl ⟨F, _, _, _, _, e, r1, r2, c, k _ F H (Ext.refl e) (.bl _)⟩
  · exact .inr (od_ne F H x y _ _ d Q e r1 r2 hg k)
theorem e_eqX (hu : X.A.units + 70 < cLine) (ha : PE X a (ofE X.K cm fa)) (hb : PE X b (ofE X.K cm fb)) : PE X (.Compare a [.Eq] [b] pos) (ofE X.K cm (bin eqX fa fb)) := e_cmp (op_eqX hu) od_eqX ha hb (nomark _)
theorem e_neX (hu : X.A.units + 70 < cLine) (ha : PE X a (ofE X.K cm fa)) (hb : PE X b (ofE X.K cm fb)) : PE X (.Compare a [.NotEq] [b] pos) (ofE X.K cm (bin neX fa fb)) := e_cmp (op_neX hu) od_neX ha hb (nomark _)
theorem t_eqX (hu : X.A.units + 70 < cLine) (ha : PE X a (ofE X.K cm fa)) (hb : PE X b (ofE X.K cm fb)) : PT X (.Compare a [.Eq] [b] pos) (ofT X.K cm (tst (bin eqX fa fb))) := t_cmp (op_eqX hu) od_eqX ha hb (nomark _)
theorem t_neX (hu : X.A.units + 70 < cLine) (ha : PE X a (ofE X.K cm fa)) (hb : PE X b (ofE X.K cm fb)) : PT X (.Compare a [.NotEq] [b] pos) (ofT X.K cm (tst (bin neX fa fb))) := t_cmp (op_neX hu) od_neX ha hb (nomark _)
/-! ### sorted(d), keys texts -/
def strLe (a b : Str) : Bool := !ltCps b.cps.toList a.cps.toList
def keysT : List Key → Option (List Str)
  | [] => some []
  | .inr x :: ks => (keysT ks).bind fun ys => some (x :: ys)
  | .inl _ :: _ => none
theorem keysT_is : ∀ {ks : List Key} {ys : List Str}, keysT ks = some ys → ks = ys.map Sum.inr
  | [], _, h => by cases h; rfl
  | .inr x :: ks, _, h => by
    rw [keysT] at h
    obtain ⟨ys, e, h⟩ := bind_some h
    cases h
    rw [keysT_is e]
    rfl
  | .inl _ :: _, _, h => by cases h
theorem strLe_is (a b : Str) : strLe a b = true ↔ a.cps.toList ≤ b.cps.toList := by
  unfold strLe
  rw [ltCps_eq, Bool.not_eq_true', decide_eq_false_iff_not, List.not_lt]
theorem strLe_tr {a b c : Str} (h : strLe a b = true) (h' : strLe b c = true) : strLe a c = true := by
  rw [strLe_is] at h h' ⊢
  exact List.le_trans h h'
theorem strLe_tot (a b : Str) : (strLe a b || strLe b a) = true := by
  rw [Bool.or_eq_true, strLe_is, strLe_is]
  exact List.le_total _ _
theorem strLe_anti {a b : Str} (h : strLe a b = true) (h' : strLe b a = true) : a = b := by
  rw [strLe_is] at h h'
  have := List.le_antisymm h h'
  cases a with
  | mk x => cases b with
    | mk y => exact congrArg Str.mk (Array.toList_inj.mp this)
theorem rising_pw : ∀ {xs : List Str} {x : Str}, risingS x xs = true → (x :: xs).Pairwise fun a b => strLe a b = true
  | [], x, _ => by simp
  | y :: xs, x, h => by
    rw [risingS, Bool.and_eq_true] at h
    have ih := rising_pw h.2
    refine List.pairwise_cons.mpr ⟨fun z hz => ?_, ih⟩
    have hxy : strLe x y = true := h.1
    rcases List.mem_cons.mp hz with rfl | hz
    · exact hxy
    · have hyz : strLe y z = true := (List.pairwise_cons.mp ih).1 z hz
      exact strLe_tr hxy hyz
def sortDct : List Dat → Option Dat
  | [.dct ks _] => (keysT ks).bind fun ys => @ite _ (ys.length < 64) (Classical.propDecidable _) (some (.lst ((ys.mergeSort strLe).map Dat.str))) none
  | d => sortD d
theorem sorted_is {ys ks : List Str} (p : ys.Perm ks) (h : sortedS ys = true) : ys = ks.mergeSort strLe := by
  have pw : ys.Pairwise fun a b => strLe a b = true := by
    cases ys with
    | nil => exact .nil
    | cons y ys => exact rising_pw h
  exact List.Perm.eq_of_pairwise (fun a b _ _ => strLe_anti) pw (List.pairwise_mergeSort (le := strLe) (fun a b c => strLe_tr) strLe_tot ks) (p.trans (List.mergeSort_perm ks strLe).symm)
theorem rs_strs {K : PySem.W.Frag} {F : Hp} : ∀ ys : List Str, Rs K cm F (ys.map V.str) (ys.map Dat.str)
  | [] => .nil
  | y :: ys => .cons (.str y) (rs_strs ys)
def rSrtD (K : PySem.W.Frag) (cm : CM) : List V → Hp → VK → Prop := fun xs H Q => (∃ (a : Addr) (kvs : List (Key × V)) (ks : List Str), xs = [.ref a] ∧ Rd H a (.dK kvs) ∧ kvs.map (·.1) = ks.map Sum.inr ∧ ks.length < 64 ∧ ∀ ys p, ys.Perm ks → sortedS ys = true → H p = none → Q (.ref p) (upd H p (.lst (ys.map V.str)))) ∨ rSrt K cm xs H Q
theorem call_srtD (hc : X.calm = true) (hu : X.A.units + 64 < cLine) : CallR X (.builtin "sorted") (rSrtD X.K cm) := by
  intro pins s σ H vs us Q I r h
  rcases h with h | h
  · exact call_sortedD hc pins s σ H vs us Q I r h
  · exact cr_srt hu pins s σ H vs us Q I r h
theorem cd_srtD : ClD X cm (rSrtD X.K cm) sortDct := fun F H vs ds d Q e rs hg k => by
  unfold sortDct at hg
  split at hg
  · obtain ⟨ys, e1, hg'⟩ := bind_some hg
    obtain ⟨c, rfl⟩ := ite_some hg'
    obtain ⟨v, rfl, r⟩ := rs.one
    obtain ⟨a, kvs, rfl, g, ek, z⟩ := r.dct_inv
    have := keysT_is e1
    refine .inl ⟨a, kvs, ys, rfl, same_rd e g, by rw [ek, this], c, fun zs q pm hs hq => ?_⟩
    rw [sorted_is pm hs]
    exact new_lst e (rs_strs _) k q hq
  · exact .inr (cd_sort F H vs _ d Q e rs hg k)
theorem e_sorted' (hc : X.calm = true) (hu : X.A.units + 64 < cLine) (hg : Gl X "sorted") (hm : X.mg "sorted" = none) (ha : PA X (e :: es) (ofA X.K cm fs)) (he : starEach (e :: es) X.env = (false, eval e X.env) :: starEach es X.env := by rfl) (hpl : (backTo pos (starEach es X.env)).any (·.1) = false := by rfl) :
    PE X (.Call (.Name "sorted" p) (e :: es) [] pos) (ofE X.K cm (app sortDct fs)) := e_callB (call_srtD hc hu) cd_srtD hg hm (by decide +kernel) ha (by decide) (by decide) he hpl
/-! ### a is b, of truth values -/
def isD2 : Dat → Dat → Option Dat
  | .bl i, .bl j => some (.bl (decide (i = j)))
  | _, _ => none
def isntD2 : Dat → Dat → Option Dat
  | .bl i, .bl j => some (.bl (!decide (i = j)))
  | _, _ => none
theorem od_is : OpD X cm (fun x y H Q => ∃ a b, x = .bl a ∧ y = .bl b ∧ Q (.bl (decide (a = b))) H) isD2 := fun F H x y a b d Q e r1 r2 hg k => by
  unfold isD2 at hg
  split at hg
  · cases hg
    exact ⟨_, _, r1.bl_inv, r2.bl_inv, k _ F H (Ext.refl e) (.bl _)⟩
  · cases hg
theorem od_isnt : OpD X cm (fun x y H Q => ∃ a b, x = .bl a ∧ y = .bl b ∧ Q (.bl (!decide (a = b))) H) isntD2 := fun F H x y a b d Q e r1 r2 hg k => by
  unfold isntD2 at hg
  split at hg
  · cases hg
    exact ⟨_, _, r1.bl_inv, r2.bl_inv, k _ F H (Ext.refl e) (.bl _)⟩
  · cases hg
theorem e_is (ha : PE X a (ofE X.K cm fa)) (hb : PE X b (ofE X.K cm fb)) : PE X (.Compare a [.Is] [b] pos) (ofE X.K cm (bin isD2 fa fb)) := e_cmp op_is_bl od_is ha hb (nomark _)
theorem e_isnt (ha : PE X a (ofE X.K cm fa)) (hb : PE X b (ofE X.K cm fb)) : PE X (.Compare a [.IsNot] [b] pos) (ofE X.K cm (bin isntD2 fa fb)) := e_cmp op_isnot_bl od_isnt ha hb (nomark _)
theorem t_is (ha : PE X a (ofE X.K cm fa)) (hb : PE X b (ofE X.K cm fb)) : PT X (.Compare a [.Is] [b] pos) (ofT X.K cm (tst (bin isD2 fa fb))) := t_cmp op_is_bl od_is ha hb (nomark _)
theorem t_isnt (ha : PE X a (ofE X.K cm fa)) (hb : PE X b (ofE X.K cm fb)) : PT X (.Compare a [.IsNot] [b] pos) (ofT X.K cm (tst (bin isntD2 fa fb))) := t_cmp op_isnot_bl od_isnt ha hb (nomark _)
end
end
end Pq

namespace Pq
open PySem PySem.Spec PyProof.Rows L2
noncomputable section
/-! ### a text so many times -/
def repP (x : Str) (n : Int) : Prop := x.length ≤ 1000 ∧ -1000 ≤ n ∧ n ≤ 1000
theorem rep_ok {x : Str} {n : Int} (h : repP x n) : MulOk x n := by
  obtain ⟨h1, h2, h3⟩ := h
  refine ⟨?_, fun h4 h5 => ?_, fun h4 h5 => ?_⟩
  · have e1 : ¬ n < -(2 ^ 63 : Int) := by omega
    have e2 : ¬ n ≥ 2 ^ 63 := by omega
    simp [e1, e2]
    omega
  · have : (x.length : Int) ≤ (2 ^ 63 - 1) / n := by
      refine Int.le_ediv_of_mul_le (by omega) ?_
      have q1 : (x.length : Int) * n ≤ 1000 * n := Int.mul_le_mul_of_nonneg_right (by omega) (by omega)
      omega
    omega
  · unfold Builtin.Str.tooLong
    have q : x.length * n.toNat ≤ 1000 * 1000 := Nat.mul_le_mul h1 (by omega)
    rw [decide_eq_false_iff_not, sizeLine_eq]
    omega
/-- a row so many times -/
def repL (m : Nat) (n : Int) : Prop := m ≤ 1000 ∧ -1000 ≤ n ∧ n ≤ 1000
def mulX (d d' : Dat) : Option Dat := match d, d' with
  | .str x, .int n => @ite _ (repP x n) (Classical.propDecidable _) (some (.str (Txt.mul x n))) none
  | .lst xs, .int n => @ite _ (repL xs.length n) (Classical.propDecidable _) (some (.lst (List.replicate n.toNat xs).flatten)) none
  | d, d' => mulD d d'
section
variable {X : Cx} {cm : CM} {a b : Expr} {fa fb : Rho → Option Dat} {pos : Pos}
def rRepS : R2 := fun x y H Q => ∃ z n, x = .str z ∧ y = .int n ∧ repP z n ∧ Q (.str (Txt.mul z n)) H
theorem op_repS : OpR X (binaryOp .Mult) rRepS := by
  intro pins s σ H x y v u Q I rx ry ⟨z, n, ex, ey, h, q⟩
  subst ex ey
  obtain ⟨t, rfl⟩ := rx
  obtain ⟨t', rfl⟩ := ry
  exact SB.mul (rep_ok h) fun t' k => ⟨.str _, H, I.tok _, ⟨_, rfl⟩, q⟩
theorem vals_rep {vs : List V} {us : List Value} (r : Vals vs us) : ∀ n : Nat, Vals (List.replicate n vs).flatten (List.replicate n us).flatten
  | 0 => .nil
  | n + 1 => by
    rw [List.replicate_succ, List.replicate_succ, List.flatten_cons, List.flatten_cons]
    exact r.append (vals_rep r n)
theorem rs_rep {K : PySem.W.Frag} {F : Hp} {vs : List V} {xs : List Dat} (r : Rs K cm F vs xs) : ∀ n : Nat, Rs K cm F (List.replicate n vs).flatten (List.replicate n xs).flatten
  | 0 => .nil
  | n + 1 => by
    rw [List.replicate_succ, List.replicate_succ, List.flatten_cons, List.flatten_cons]
    exact r.append (rs_rep r n)
def rRepL : R2 := fun x y H Q => ∃ l vs n, x = .ref l ∧ y = .int n ∧ Rd H l (.lst vs) ∧ repL vs.length n ∧ ∀ p, H p = none → Q (.ref p) (upd H p (.lst (List.replicate n.toNat vs).flatten))
theorem op_repL : OpR X (binaryOp .Mult) rRepL := by
  intro pins s σ H x y v u Q I rx ry ⟨l, vs, n, ex, ey, hl, hr, q⟩
  subst ex ey
  cases rx
  obtain ⟨t, rfl⟩ := ry
  obtain ⟨_, its, k, r, at_⟩ := hl.ok I.hok
  obtain ⟨s1, s2, s3⟩ := hr
  have small : its.length * n.toNat ≤ 1000 * 1000 := Nat.mul_le_mul (by rw [← r.length]; exact s1) (by omega)
  have lst : s.TypeIs (.ref l) "list" := ⟨_, at_, rfl⟩
  have whole : ∀ s' : Shared, s'.TypeIs (.int n t) "int" := fun s' => typeIs_int s' n t
  -- the number's own product declines; the row's is made
  have made := lm_list_mul_any l its.toArray k none #[] n t (by simp [Builtin.List.listFitsIndex]; omega) (by simp; omega) (by simp [Builtin.List.listTooLong, sizeLine]; omega)
  have declines := lm_int_rmul_list_any n t l its.toArray k none #[]
  have out : Inv X pins σ (upd H s.heap.objs.size (.lst (List.replicate n.toNat vs).flatten)) { s with heap := s.heap.push { cls := .type "list", data := .seq (List.replicate n.toNat its).flatten.toArray }, toks := s.toks } := I.lnew (vals_rep r _) (by
    rw [(vals_rep r _).length, lm_len_rep_flat, Nat.mul_comm, sizeLine_eq]
    omega)
  refine wpAny_binaryOp_repeat_ref (by decide) lst whole noFill_list_mul F.fills_int_mul F.slot_int_rmul repeat_list F.slot_int_index.lookup ?_
  refine call_meets F.slot_int_rmul (whole s) F.entry_int_rmul (F.args_int_rmul_2 _ _) declines ⟨at_, rfl, lst, ?_⟩
  refine call_meets F.slot_list_mul lst F.entry_list_mul (F.args_list_mul_2 _ _) made ⟨at_, ?_⟩
  rw [listMul_foldl_if]
  exact ⟨.ref _, _, out, rfl, q _ I.fresh⟩
theorem op_mulX : OpR X (binaryOp .Mult) (fun x y H Q => (rRepS x y H Q ∨ rRepL x y H Q) ∨ rI CMul (fun i j => .int (i * j)) x y H Q) := (op_repS.or op_repL).or op_mul
theorem od_mulX : OpD X cm (fun x y H Q => (rRepS x y H Q ∨ rRepL x y H Q) ∨ rI CMul (fun i j => .int (i * j)) x y H Q) mulX := fun F H x y a b d Q e r1 r2 hg k => by
  unfold mulX at hg
  split at hg
  · obtain ⟨c, rfl⟩ := ite_some hg
    exact .inl (.inl ⟨_, _, r1.str_inv, r2.int_inv, c, k _ F H (Ext.refl e) (.str _)⟩)
  · obtain ⟨c, rfl⟩ := ite_some hg
    obtain ⟨l, vs, rfl, g, r⟩ := r1.lst_inv
    refine .inl (.inr ⟨l, vs, _, rfl, r2.int_inv, same_rd e g, by rw [r.length]; exact c, fun p hp => ?_⟩)
    have np : F p = none := e.free hp
    exact k _ (upd F p _) _ (Ext.laid e hp) (.lst (.inl upd_same) ((rs_rep r _).mono (same_new np)))
  · exact .inr (od_mul F H x y _ _ d Q e r1 r2 hg k)
theorem e_mulX (ha : PE X a (ofE X.K cm fa)) (hb : PE X b (ofE X.K cm fb)) : PE X (.BinOp a .Mult b pos) (ofE X.K cm (bin mulX fa fb)) := e_bin op_mulX od_mulX ha hb
theorem u70 {k : Nat} {A : Around} (r : Room k A) : A.units + 70 < cLine := by
  have := r.un
  omega
/-- a law's promise -/
def spL (K : PySem.W.Frag) : Sp := fun vs H Q E => ∃ (a : Addr) (ns : List Int), vs = [.ref a] ∧ SqL K H a (ns.map V.int) ∧ ns.length ≤ 63 ∧ ∀ H', Q (.bl true) H'
theorem law_ok {P : Program} {w : World} {K : PySem.W.Frag} {mg : Str → Option Value} {base : Heap} {c : Str → Addr} {k : Nat} {f : Addr} {fd : FuncData} {ps : List Str} {g : List Dat → Option Out} (G : FnOk P w K mg base (L2.CX P w) k f fd ps (spX K ⟨c, fun _ => none, []⟩ g)) (hg : ∀ ns : List Int, ns.length ≤ 63 → g [.scr (ns.map Dat.int)] = some (.ok (.fro (.bl true)))) :
    FnOk P w K mg base (L2.CX P w) k f fd ps (spL K) := G.imp fun vs H Q E ⟨a, ns, ev, hS, hl, q⟩ => by
  subst ev
  refine ⟨H, _, _, Same.refl H, Cells.zero, .cons (.scr hS (ints_rs ns)) .nil, hg ns hl, fun v F' H' A x r nd n => ?_⟩
  cases r with
  | fro z =>
    rw [z.bl_inv]
    exact q H'
/-! ### a def of a class -/
structure Mtd (K : PySem.W.Frag) (x qual : Str) (st : Stmt) (f : Addr) (fd : FuncData) (ps : List Str) : Prop where
  F : L2.Fun K x qual st f fd
  b : Binds K fd ps []
end
end
end Pq

namespace Pq
open PySem PySem.Spec PyProof.Rows L2
noncomputable section
/-! ### sorted(list of tuples that are of one kind as far as they are alike) -/
def alkF : List PyData → List PyData → Bool
  | x :: xs, y :: ys => PySem.W.alike x y && (!PyData.eqv x y || alkF xs ys)
  | _, _ => true
def atm : Dat → Bool
  | .int _ => true | .str _ => true | _ => false
def its : Dat → List Dat
  | .tup xs => xs
  | _ => []
/-- tuples of whole numbers and texts, a text ahead -/
def fltT (d : Dat) : Prop := ∃ x xs, d = .tup (.str x :: xs) ∧ xs.all atm = true
def srtQ (ds : List Dat) : Prop := (∀ d ∈ ds, fltT d) ∧ (∀ d ∈ ds, ∀ d' ∈ ds, alkF (pys (its d)) (pys (its d')) = true) ∧ ds.length ≤ sizeLine
section
variable {prog : Program} {w : World} {A : Around} {s : Shared} {h : Heap}
theorem flat_unique : ∀ {xs ys : List Dat} {vs : List Value} {as bs : List Addr}, xs.all atm = true → ys.all atm = true → ReadsAll h vs (pys xs) as → ReadsAll h vs (pys ys) bs → pys xs = pys ys
  | [], [], _, _, _, _, _, _, _ => rfl
  | [], y :: ys, _, _, _, _, _, r, r' => by
    simp only [pys] at r r'
    cases r; cases r'
  | x :: xs, [], _, _, _, _, _, r, r' => by
    simp only [pys] at r r'
    cases r'; cases r
  | x :: xs, y :: ys, _, _, _, h1, h2, r, r' => by
    simp only [pys] at r r' ⊢
    rw [List.all_cons, Bool.and_eq_true] at h1 h2
    cases r with
    | cons q qs =>
      cases r' with
      | cons q' qs' =>
        rw [flat_unique h1.2 h2.2 qs qs']
        congr 1
        cases x <;> first | (cases h1.1; done) | skip
        all_goals cases y <;> first | (cases h2.1; done) | skip
        all_goals
          simp only [py] at q q' ⊢
          cases q <;> cases q' <;> rfl
theorem flt_unique {d d' : Dat} {v : Value} {as bs : List Addr} (h1 : fltT d) (h2 : fltT d') (r : Reads h v (py d) as) (r' : Reads h v (py d') bs) : py d = py d' := by
  obtain ⟨x, xs, rfl, hx⟩ := h1
  obtain ⟨y, ys, rfl, hy⟩ := h2
  simp only [py] at r r' ⊢
  cases r with
  | tuple k1 k2 k3 k4 =>
    cases r' with
    | tuple l1 l2 l3 l4 =>
      rw [k1] at l1; cases l1
      rw [k3] at l3; cases l3
      rw [flat_unique (by rw [List.all_cons, hx]; rfl) (by rw [List.all_cons, hy]; rfl) k4 l4]
theorem kind_some {ds : List Dat} (hf : ∀ d ∈ ds, fltT d) {v : Value} {d : Dat} {as : List Addr} (hd : d ∈ ds) (r : Reads h v (py d) as) : (PySem.W.dataKind h (ds.map py)).keyOf v = some (PySem.W.keyToks (py d)) := by
  have q : ∃ e, e ∈ ds.map py ∧ ∃ as, Reads h v e as := ⟨py d, List.mem_map_of_mem hd, as, r⟩
  have e : (PySem.W.dataKind h (ds.map py)).keyOf v = some (PySem.W.keyToks q.choose) := by
    show (open Classical in if q : ∃ e, e ∈ ds.map py ∧ ∃ as, Reads h v e as then some (PySem.W.keyToks q.choose) else none) = _
    rw [dif_pos q]
  obtain ⟨h1, as', h2⟩ := q.choose_spec
  obtain ⟨d', hd', e'⟩ := List.mem_map.mp h1
  rw [e, ← e', flt_unique (hf d' hd') (hf d hd) (e' ▸ h2) r]
/-- where one row is at its end, the shorter one is ahead -/
theorem lex_end : ∀ {xs ys : List PyData}, (xs = [] ∨ ys = []) → PyProof.Rows.lexLt itemOrd (PySem.W.keyToksAll xs) (PySem.W.keyToksAll ys) = decide (xs.length < ys.length)
  | [], [], _ => lex_irrefl _
  | [], y :: ys, _ => by
    rw [PySem.W.toks_all_cons, PySem.W.keyToksAll, lex_diff (O := itemOrd) (by simp)]
    simp [itemLt]
  | x :: xs, [], _ => by
    rw [PySem.W.toks_all_cons, PySem.W.keyToksAll, lex_diff (O := itemOrd) (by simp)]
    simp [itemLt]
theorem kat_flat {b fin : Bool} {Q : Bool → Shared → Prop} (xs : List PyData) : ∀ (ys : List PyData) (i : Nat) (vs ws : List Value) (as bs : List Addr), ReadsAll s.heap vs xs as → ReadsAll s.heap ws ys bs → alkF xs ys = true →
    A.units + min (PyData.depthAll xs) (PyData.depthAll ys) < cLine → (b = true → i = 0 → ∀ x r t, xs = x :: r → x ≠ .tuple t) → fin = decide (xs.length < ys.length) → Q (PyProof.Rows.lexLt itemOrd (PySem.W.keyToksAll xs) (PySem.W.keyToksAll ys)) s → PySem.W.KatLex prog w A b fin Q (vs.zip ws) i s := by
  induction xs with
  | nil =>
    intro ys i vs ws as bs rx ry _ _ _ he q
    cases rx
    rw [lex_end (.inl rfl), ← he] at q
    exact PySem.W.kat_nil q
  | cons x xs ih =>
    intro ys i vs ws as bs rx ry al room first he q
    cases ys with
    | nil =>
      cases ry
      rw [lex_end (.inr rfl), ← he] at q
      rw [List.zip_nil_right]
      exact PySem.W.kat_nil q
    | cons y ys =>
      obtain ⟨hd, tl⟩ := Bool.and_eq_true_iff.mp (show (PySem.W.alike x y && (!PyData.eqv x y || alkF xs ys)) = true from al)
      cases rx with
      | cons p ps =>
        cases ry with
        | cons p' ps' =>
          have top := SeqAt.room_head room
          refine PySem.W.kat_cons (PySem.W.eqAt_alike x y A s _ _ _ _ p p' hd top prog w _ _ ?_)
          cases same : PyData.eqv x y
          · refine PySem.W.kat_no (PySem.W.oneLt_alike (fun both t => ?_) p p' hd (PySem.W.ne_none_of hd same) top ((PySem.W.dataLt_all_no hd same) ▸ q))
            obtain ⟨q1, q2⟩ := Bool.and_eq_true_iff.mp both
            exact first q1 (by simpa using q2) x xs t rfl
          · have q' := (PySem.W.dataLt_all_yes hd same) ▸ q
            exact PySem.W.kat_yes (ih ys (i + 1) _ _ _ _ ps ps' (by simpa [same] using tl) (SeqAt.room_tail room) (fun _ z => by omega) (by rw [he]; simp) q')
theorem depth_atms : ∀ {xs : List Dat}, xs.all atm = true → PyData.depthAll (pys xs) = 0
  | [], _ => by rw [pys, PyData.depthAll]
  | x :: xs, hx => by
    rw [List.all_cons, Bool.and_eq_true] at hx
    rw [pys, PyData.depthAll, depth_atms hx.2]
    cases x <;> first | (cases hx.1; done) | skip
    all_goals rw [py, PyData.depth]; rfl
theorem sorts_flat {vs : List Value} {ds : List Dat} (e : PySem.W.EachIs (fun v d => ∃ as, Reads s.heap v d as) vs (ds.map py)) (hf : ∀ d ∈ ds, fltT d) (hal : ∀ d ∈ ds, ∀ d' ∈ ds, alkF (pys (its d)) (pys (its d')) = true) (hu : A.units + 2 < cLine) : PySem.W.SortsAt prog w A s (PySem.W.dataKind s.heap (ds.map py)) vs := by
  refine ⟨fun v hv => ?_, ?_⟩
  · obtain ⟨d, hd, as, r⟩ := e.left v hv
    obtain ⟨d', hd', rfl⟩ := List.mem_map.mp hd
    exact ⟨_, kind_some hf hd' r⟩
  · refine ⟨tuples' true, ?_, fun h2 E Q hq => ?_⟩
    · intro E x y a b Q ha hb hq
      obtain ⟨d, as, hd, ra, rfl⟩ := PySem.W.dataKind_inv ha
      obtain ⟨d', as', hd', rb, rfl⟩ := PySem.W.dataKind_inv hb
      obtain ⟨d1, m1, rfl⟩ := List.mem_map.mp hd
      obtain ⟨d2, m2, rfl⟩ := List.mem_map.mp hd'
      have hdd := hal d1 m1 d2 m2
      obtain ⟨x1, r1, rfl, a1⟩ := hf d1 m1
      obtain ⟨x2, r2, rfl, a2⟩ := hf d2 m2
      have q1 : PyData.depthAll (pys (.str x1 :: r1)) = 0 := depth_atms (by rw [List.all_cons, a1]; rfl)
      have q2 : PyData.depthAll (pys (.str x2 :: r2)) = 0 := depth_atms (by rw [List.all_cons, a2]; rfl)
      have hq' : Q (PySem.W.dataLt (.tuple (pys (.str x1 :: r1))) (.tuple (pys (.str x2 :: r2)))) s := by
        have : Q (PySem.W.dataLt (py (.tup (.str x1 :: r1))) (py (.tup (.str x2 :: r2)))) s := hq
        rw [py, py] at this
        exact this
      rw [PySem.W.dataLt_tuple] at hq'
      rw [py] at ra rb
      cases ra with
      | @tuple l o xs n _ _ h1 h2 h3 h4 =>
        cases rb with
        | @tuple l' o' xs' n' _ _ k1 k2 k3 k4 =>
          have n1 : xs.size = (pys (.str x1 :: r1)).length := by simpa using SeqAt.ReadsAll.length _ _ _ h4
          have n2 : xs'.size = (pys (.str x2 :: r2)).length := by simpa using SeqAt.ReadsAll.length _ _ _ k4
          refine PySem.W.kat_lt h1 h3 k1 k3 (kat_flat (pys (.str x1 :: r1)) (pys (.str x2 :: r2)) 0 _ _ _ _ h4 k4 hdd (by rw [q1, q2]; omega) (fun hb _ x r t ex => ?_) (by rw [n1, n2]) hq')
          rw [pys, py] at ex
          obtain ⟨rfl, rfl⟩ := List.cons.inj ex
          intro z
          cases z
    · have ht : ∀ d, d ∈ ds.map py → ∃ x r, d = .tuple (x :: r) := fun d hd => by
        obtain ⟨d1, m1, rfl⟩ := List.mem_map.mp hd
        obtain ⟨x1, r1, rfl, a1⟩ := hf d1 m1
        rw [py, pys]
        exact ⟨_, _, rfl⟩
      obtain ⟨fs, t1, t2, t3⟩ := PySem.W.each_katTups e ht
      refine PySem.W.kat_kind (T := .type "str") t1 (by omega) (fun f hf' => ?_) (beq_self_eq_true _) hq
      obtain ⟨x, r, as, m1, m2⟩ := t3 f hf'
      obtain ⟨d1, m3, e1⟩ := List.mem_map.mp m1
      obtain ⟨x1, r1, rfl, a1⟩ := hf d1 m3
      rw [py, pys, py] at e1
      cases e1
      exact PySem.W.looks_reads m2
end
section
variable {X : Cx} {cm : CM} {e : Expr} {es : List Expr} {fs : Rho → Option (List Dat)} {pos p : Pos}
theorem pl_flt {d : Dat} (h : fltT d) : pl d = true := by
  obtain ⟨x, xs, rfl, a⟩ := h
  rw [pl, pls_all, List.all_cons, Bool.and_eq_true]
  refine ⟨by rw [pl], List.all_eq_true.mpr fun y hy => ?_⟩
  have := List.all_eq_true.mp a y hy
  cases y <;> first | rfl | cases this
def rSrtQ (K : PySem.W.Frag) (cm : CM) : List V → Hp → VK → Prop := fun vs H Q => ∃ F a ws ds, vs = [V.ref a] ∧ Same F H ∧ SqL K F a ws ∧ Rs K cm F ws ds ∧ srtQ ds ∧ ∀ ws' p, H p = none → Rs K cm F ws' (ds.mergeSort leY) → Q (.ref p) (upd H p (.lst ws'))
theorem cr_srtQ (hu : X.A.units + 64 < cLine) : CallR X (.builtin "sorted") (rSrtQ X.K cm) := by
  intro pins s σ H vs us Q I r ⟨F, a, ws, ds, ev, e, hs, rs, ⟨p1, p2, p4⟩, q⟩
  subst ev
  obtain ⟨its, rv, hl, _⟩ := I.list (e.seq hs)
  rw [Vals.ref1 r]
  obtain ⟨z1, z2⟩ := zip_snd rs
  have hm : (ws.zip ds).map (fun b : V × Dat => py b.2) = ds.map py := by
    have := congrArg (List.map py) z1
    rw [List.map_map] at this
    exact this
  have er := Rs.mem rs rv
  have er2 : PySem.W.EachIs (fun u (b : V × Dat) => ∃ as, Reads s.heap u (py b.2) as) its (ws.zip ds) := by
    have : ∀ {us : List Value} {bs : List (V × Dat)}, (∀ b ∈ bs, pl b.2 = true) → PySem.W.EachIs (fun u (b : V × Dat) => RelV b.1 u ∧ R X.K cm F b.1 b.2) us bs → PySem.W.EachIs (fun u (b : V × Dat) => ∃ as, Reads s.heap u (py b.2) as) us bs := by
      intro us bs hb h
      induction h with
      | nil => exact .nil
      | cons h t ih => exact .cons (R.reads I e h.2 (hb _ List.mem_cons_self) h.1) (ih fun b hb' => hb b (List.mem_cons_of_mem _ hb'))
    exact this (fun b hb => (p1 b.2 (by rw [← z1]; exact List.mem_map_of_mem hb)) |> pl_flt) er
  have er' : PySem.W.EachIs (fun v (b : V × Dat) => ∃ as, Reads (PySem.W.sortingHeap (PySem.W.copyHeap s.heap its) (s.heap.objs.size + 1) its) v (py b.2) as) its (ws.zip ds) := er2.mono fun _ _ ⟨as, r⟩ => ⟨as, PyProof.Rows.Reads.keeps (fun _ _ => PySem.W.sorting_copy_old) r⟩
  have er3 : PySem.W.EachIs (fun v d => ∃ as, Reads (PySem.W.sortingHeap (PySem.W.copyHeap s.heap its) (s.heap.objs.size + 1) its) v d as) its (ds.map py) := by
    have := PySem.W.each_map (R := fun v d => ∃ as, Reads (PySem.W.sortingHeap (PySem.W.copyHeap s.heap its) (s.heap.objs.size + 1) its) v d as) (fun b : V × Dat => py b.2) er'
    rwa [hm] at this
  have hlen : its.length = ds.length := by rw [er.length, z2]
  refine PySem.W.sorted_vals (κ := PySem.W.dataKind (PySem.W.sortingHeap (PySem.W.copyHeap s.heap its) (s.heap.objs.size + 1) its) (ds.map py)) hl.isList (sorts_flat (s := { s with heap := PySem.W.sortingHeap (PySem.W.copyHeap s.heap its) (s.heap.objs.size + 1) its }) er3 p1 p2 (by show X.A.units + 1 + 1 + 2 < cLine; omega)) (by rw [hlen]; exact p4) ?_
  have ek : PySem.W.EachIs (fun v (b : V × Dat) => (PySem.W.dataKind (PySem.W.sortingHeap (PySem.W.copyHeap s.heap its) (s.heap.objs.size + 1) its) (ds.map py)).keyOf v = some (PySem.W.keyToks (py b.2))) its (ws.zip ds) :=
    (PySem.W.each_mem er').mono fun v b ⟨⟨as, r⟩, hb⟩ => kind_some p1 (by rw [← z1]; exact List.mem_map_of_mem hb) r
  have hout : PySem.W.EachIs (fun u (b : V × Dat) => RelV b.1 u ∧ R X.K cm F b.1 b.2) (PySem.W.sortVals (PySem.W.dataKind (PySem.W.sortingHeap (PySem.W.copyHeap s.heap its) (s.heap.objs.size + 1) its) (ds.map py)) false its its) ((ws.zip ds).mergeSort (PySem.W.dataLe false fun b : V × Dat => py b.2)) :=
    PySem.W.sortVals_each (κ := PySem.W.dataKind _ (ds.map py)) (fun b : V × Dat => PySem.W.keyToks (py b.2)) er ek
  have ho : (PySem.W.sortVals (PySem.W.dataKind (PySem.W.sortingHeap (PySem.W.copyHeap s.heap its) (s.heap.objs.size + 1) its) (ds.map py)) false its its).length = ds.length := by
    rw [PySem.W.sortVals_length false rfl]; exact hlen
  obtain ⟨q1, q2⟩ := each_out hout
  have e2 : ((ws.zip ds).mergeSort (PySem.W.dataLe false fun b : V × Dat => py b.2)).map (·.2) = ds.mergeSort leY := by
    rw [List.map_mergeSort (r := PySem.W.dataLe false fun b : V × Dat => py b.2) (s := leY) (f := fun b : V × Dat => b.2), z1]
    intro a _ b _
    rfl
  rw [e2] at q2
  obtain ⟨ep, he'⟩ := PyProof.Rows.sortedAll_at s.heap its (List.toArray (PySem.W.sortVals (PySem.W.dataKind (PySem.W.sortingHeap (PySem.W.copyHeap s.heap its) (s.heap.objs.size + 1) its) (ds.map py)) false its its))
  have hl2 : (((ws.zip ds).mergeSort (PySem.W.dataLe false fun b : V × Dat => py b.2)).map (·.1)).length ≤ sizeLine := by rw [q1.length, ho]; exact p4
  exact ⟨.ref _, upd H (s.heap.objs.size + 1) (.lst _), I.laid (t' := s.toks) (fun _ _ => PyProof.Rows.sortedAll_old) (Nat.le_succ _) ⟨hl2, _, ep, q1, he'⟩, rfl, q _ _ (I.hok.fresh (Nat.le_succ _)) q2⟩
def sortQ : List Dat → Option Dat
  | [.lst ds] => @ite _ (srtQ ds) (Classical.propDecidable _) (some (.lst (ds.mergeSort leY))) (sortDct [.lst ds])
  | d => sortDct d
theorem cr_srtX (hc : X.calm = true) (hu : X.A.units + 64 < cLine) : CallR X (.builtin "sorted") (fun vs H Q => rSrtQ X.K cm vs H Q ∨ rSrtD X.K cm vs H Q) := by
  intro pins s σ H vs us Q I r h
  rcases h with h | h
  · exact cr_srtQ hu pins s σ H vs us Q I r h
  · exact call_srtD hc hu pins s σ H vs us Q I r h
theorem cd_srtX : ClD X cm (fun vs H Q => rSrtQ X.K cm vs H Q ∨ rSrtD X.K cm vs H Q) sortQ := fun F H vs ds d Q e rs hg k => by
  unfold sortQ at hg
  split at hg
  · rename_i ys
    by_cases c : srtQ ys
    · rw [ifp c] at hg
      cases hg
      obtain ⟨v, rfl, r⟩ := rs.one
      obtain ⟨a, ws, rfl, h, q⟩ := r.lst_inv
      exact .inl ⟨F, a, ws, _, rfl, e, .inl h, q, c, fun ws' p hp r' => new_lst e r' k p hp⟩
    · have hg' : sortDct [.lst ys] = some d := by
        simpa only [if_neg c] using hg
      exact .inr (cd_srtD F H vs _ d Q e rs hg' k)
  · exact .inr (cd_srtD F H vs _ d Q e rs hg k)
theorem e_sortX (hc : X.calm = true) (hu : X.A.units + 64 < cLine) (hg : Gl X "sorted") (hm : X.mg "sorted" = none) (ha : PA X (e :: es) (ofA X.K cm fs)) (he : starEach (e :: es) X.env = (false, eval e X.env) :: starEach es X.env := by rfl) (hpl : (backTo pos (starEach es X.env)).any (·.1) = false := by rfl) :
    PE X (.Call (.Name "sorted" p) (e :: es) [] pos) (ofE X.K cm (app sortQ fs)) := e_callB (cr_srtX hc hu) cd_srtX hg hm (by decide +kernel) ha (by decide) (by decide) he hpl
end
end
end Pq

namespace Pq
open PySem PySem.Spec PyProof.Rows L2
noncomputable section
section
variable {X : Cx} {cm : CM} {e : Expr} {es : List Expr} {fs : Rho → Option (List Dat)} {pos p : Pos}
/-! ### sorted(..), a list of one's own -/
def olOf : Dat → Option SV
  | .lst xs => some (.ol (xs.map SV.fro))
  | _ => none
def sortO (ds : List Dat) : Option SV := (sortQ ds).bind olOf
theorem co_srtX : ClO X cm (fun vs H Q => rSrtQ X.K cm vs H Q ∨ rSrtD X.K cm vs H Q) sortO := fun F H vs ds sv Q e rs hg k => by
  unfold sortO at hg
  obtain ⟨d, e1, hg⟩ := bind_some hg
  unfold sortQ at e1
  split at e1
  · rename_i ys
    by_cases c : srtQ ys
    · rw [ifp c] at e1
      cases e1
      cases hg
      obtain ⟨v, rfl, r⟩ := rs.one
      obtain ⟨a, ws, rfl, h, q⟩ := r.lst_inv
      exact .inl ⟨F, a, ws, _, rfl, e, .inl h, q, c, fun ws' p hp r' => own_lst e r' k p hp⟩
    · have e2 : sortDct [.lst ys] = some d := by simpa only [if_neg c] using e1
      have e3 : sortD [.lst ys] = some d := e2
      unfold sortD at e3
      obtain ⟨c', rfl⟩ := ite_some e3
      cases hg
      obtain ⟨v, rfl, r⟩ := rs.one
      obtain ⟨a, ws, rfl, h, q⟩ := r.lst_inv
      exact .inr (.inr ⟨F, a, ws, _, rfl, e, .inl h, q, c', fun ws' p hp r' => own_lst e r' k p hp⟩)
  · unfold sortDct at e1
    split at e1
    · obtain ⟨ys, e2, e1⟩ := bind_some e1
      obtain ⟨c, rfl⟩ := ite_some e1
      cases hg
      obtain ⟨v, rfl, r⟩ := rs.one
      obtain ⟨a, kvs, rfl, g, ek, z⟩ := r.dct_inv
      have := keysT_is e2
      refine .inr (.inl ⟨a, kvs, ys, rfl, same_rd e g, by rw [ek, this], c, fun zs q pm hs hq => ?_⟩)
      rw [sorted_is pm hs]
      exact own_lst e (rs_strs _) k q hq
    · unfold sortD at e1
      split at e1
      · simp_all
      · cases e1
theorem o_sortX (hc : X.calm = true) (hu : X.A.units + 64 < cLine) (hg : Gl X "sorted") (hm : X.mg "sorted" = none) (ha : PA X (e :: es) (ofA X.K cm fs)) (he : starEach (e :: es) X.env = (false, eval e X.env) :: starEach es X.env := by rfl) (hpl : (backTo pos (starEach es X.env)).any (·.1) = false := by rfl) :
    PE X (.Call (.Name "sorted" p) (e :: es) [] pos) (ofO X.K cm (appO sortO fs)) := PE.imp (pe_callB (cr_srtX hc hu) hg hm (by decide +kernel) ha (by decide) (by decide) he hpl) (appO_of co_srtX)
end
end
end Pq

namespace Pq
open PySem PySem.Spec PyProof.Rows L2
noncomputable section

/-! ### the store grows -/
structure Grow (K : PySem.W.Frag) (cm : CM) (F : Hp) (cm' : CM) (F' H' : Hp) (z' : Sto) : Prop where
  c : cm'.c = cm.c
  t : ∀ k a, cm.t k = some a → cm'.t k = some a
  z : cm'.z = z'
  f : Same F F'
  fh : Same F' H'
  cel : Cells K cm' F' H'
section
variable {K : PySem.W.Frag} {cm cm' cm2 : CM} {F F' F2 H H' H2 : Hp} {z' z2 : Sto}
mutual
theorem R.cmono (e : Same F F') (hc : cm'.c = cm.c) (ht : ∀ k a, cm.t k = some a → cm'.t k = some a) : ∀ {v : V} {x : Dat}, R K cm F v x → R K cm' F' v x
  | _, _, .non => .non
  | _, _, .bl b => .bl b
  | _, _, .int i => .int i
  | _, _, .str x => .str x
  | _, _, .tup h r => .tup (same_sqT e h) (Rs.cmono e hc ht r)
  | _, _, .lst h r => .lst (same_rd e h) (Rs.cmono e hc ht r)
  | _, _, .dct h k r => .dct (same_rd e h) k (Rs.cmono e hc ht r)
  | _, _, @R.obj _ _ _ a dx c fvs fs xs h k r => .obj (dx := dx) (fvs := fvs) (by rw [show cm' c = cm c from congrFun hc c]; exact e _ _ h) k (Rs.cmono e hc ht r)
  | _, _, .scr h r => .scr (e.seq h) (Rs.cmono e hc ht r)
  | _, _, .cel h => .cel (ht _ _ h)
theorem Rs.cmono (e : Same F F') (hc : cm'.c = cm.c) (ht : ∀ k a, cm.t k = some a → cm'.t k = some a) : ∀ {vs : List V} {xs : List Dat}, Rs K cm F vs xs → Rs K cm' F' vs xs
  | _, _, .nil => .nil
  | _, _, .cons r t => .cons (R.cmono e hc ht r) (Rs.cmono e hc ht t)
end
theorem Grow.r (g : Grow K cm F cm' F' H' z') {v : V} {x : Dat} (h : R K cm F v x) : R K cm' F' v x := h.cmono g.f g.c g.t
theorem Grow.rs (g : Grow K cm F cm' F' H' z') {v : List V} {x : List Dat} (h : Rs K cm F v x) : Rs K cm' F' v x := h.cmono g.f g.c g.t
theorem Grow.ofExt (x : Ext F H F' H') (cl : Cells K cm F H) : Grow K cm F cm F' H' cm.z := ⟨rfl, fun _ _ h => h, rfl, x.f, x.fh, cl.ext x⟩
theorem Grow.trans (a : Grow K cm F cm' F' H' z') (b : Grow K cm' F' cm2 F2 H2 z2) : Grow K cm F cm2 F2 H2 z2 := ⟨b.c.trans a.c, fun k x h => b.t k x (a.t k x h), b.z, a.f.trans b.f, b.fh, b.cel⟩
theorem Grow.refl (e : Same F H) (cl : Cells K cm F H) : Grow K cm F cm F H cm.z := Grow.ofExt (Ext.refl e) cl
theorem CelAt.cmono {a : Addr} {c : Cel} (e : Same F F') (hc : cm'.c = cm.c) (ht : ∀ k a, cm.t k = some a → cm'.t k = some a) (h : ∀ o, H a = some o → H' a = some o) : CelAt K cm F H a c → CelAt K cm' F' H' a c
  | .lst h1 r => .lst (h _ h1) (r.cmono e hc ht)
  | .dct h1 k r => .dct (h _ h1) k (r.cmono e hc ht)
  | @CelAt.obj _ _ _ _ _ dx c fvs fs xs h1 k r => .obj (dx := dx) (fvs := fvs) (by rw [show cm' c = cm c from congrFun hc c]; exact h _ h1) k (r.cmono e hc ht)
  | @CelAt.err _ _ _ _ _ c h1 => .err (by rw [show cm' c = cm c from congrFun hc c]; exact h _ h1)
/-- a cell more -/
def CM.snoc (cm : CM) (a : Addr) (c : Cel) : CM := ⟨cm.c, fun k => if k = cm.z.length then some a else cm.t k, cm.z ++ [c]⟩
theorem CM.snoc_t {a : Addr} {c : Cel} (cl : Cells K cm F H) : ∀ k b, cm.t k = some b → (cm.snoc a c).t k = some b := fun k b h => by
  have := cl.dom k b h
  show (if k = cm.z.length then some a else cm.t k) = _
  rw [if_neg (by omega)]
  exact h
/-- an object of one's own becomes a cell -/
theorem Cells.snoc {a : Addr} {c : Cel} (cl : Cells K cm F H) (hF : F a = none) (ha : ∀ k, cm.t k ≠ some a) (h : CelAt K cm F H a c) : Cells K (cm.snoc a c) F H where
  at_ := fun k d hk => by
    by_cases hl : k < cm.z.length
    · have hk' : cm.z[k]? = some d := by
        have : (cm.z ++ [c])[k]? = some d := hk
        rwa [List.getElem?_append_left hl] at this
      obtain ⟨b, h1, ho, h2⟩ := cl.at_ k d hk'
      refine ⟨b, CM.snoc_t cl k b h1, ho, fun hc => ?_⟩
      obtain ⟨h2, h3⟩ := h2 hc
      exact ⟨h2, h3.cmono (cm := cm) (cm' := cm.snoc a c) (Same.refl F) rfl (CM.snoc_t cl) fun _ h => h⟩
    · have e : (cm.z ++ [c])[k]? = some d := hk
      rw [List.getElem?_append_right (by omega)] at e
      have hk2 : k - cm.z.length = 0 := by
        rcases Nat.eq_zero_or_pos (k - cm.z.length) with z | z
        · exact z
        · rw [List.getElem?_eq_none (by rw [List.length_singleton]; omega)] at e
          cases e
      rw [hk2] at e
      cases e
      exact ⟨a, by show (if k = cm.z.length then some a else cm.t k) = _; rw [if_pos (by omega)], h.here, fun _ => ⟨hF, h.cmono (cm := cm) (cm' := cm.snoc a c) (Same.refl F) rfl (CM.snoc_t cl) fun _ h => h⟩⟩
  inj := fun j k b h1 h2 => by
    have h1' : (if j = cm.z.length then some a else cm.t j) = some b := h1
    have h2' : (if k = cm.z.length then some a else cm.t k) = some b := h2
    split at h1'
    · split at h2'
      · omega
      · cases h1'
        exact absurd h2' (ha k)
    · split at h2'
      · cases h2'
        exact absurd h1' (ha j)
      · exact cl.inj j k b h1' h2'
  dom := fun k b h1 => by
    have h1' : (if k = cm.z.length then some a else cm.t k) = some b := h1
    show k < (cm.z ++ [c]).length
    rw [List.length_append, List.length_singleton]
    split at h1'
    · omega
    · have := cl.dom k b h1'
      omega
/-- a cell's content is another one -/
theorem Cells.set {k : Nat} {a : Addr} {c : Cel} {o : HO} (cl : Cells K cm F H) (hk : cm.t k = some a) (hn : F a = none) (h : CelAt K ⟨cm.c, cm.t, cm.z.set k c⟩ F (upd H a o) a c) : Cells K ⟨cm.c, cm.t, cm.z.set k c⟩ F (upd H a o) where
  at_ := fun j d hj => by
    have hl := cl.dom k a hk
    by_cases e : k = j
    · subst e
      have : (cm.z.set k c)[k]? = some d := hj
      rw [List.getElem?_set_self hl] at this
      cases this
      exact ⟨a, hk, ⟨_, upd_same⟩, fun _ => ⟨hn, h⟩⟩
    · have : (cm.z.set k c)[j]? = some d := hj
      rw [List.getElem?_set_ne e] at this
      obtain ⟨b, h1, ⟨o', ho⟩, h2⟩ := cl.at_ j d this
      have ne : b ≠ a := fun z => by
        rw [z] at h1
        exact e (cl.inj k j a hk h1)
      refine ⟨b, h1, ⟨o', by rw [upd_ne ne]; exact ho⟩, fun hc => ?_⟩
      obtain ⟨h2, h3⟩ := h2 hc
      exact ⟨h2, h3.cmono (cm := cm) (cm' := ⟨cm.c, cm.t, cm.z.set k c⟩) (Same.refl F) rfl (fun _ _ h => h) fun u hu => by rw [upd_ne ne]; exact hu⟩
  inj := cl.inj
  dom := fun j b h1 => by
    show j < (cm.z.set k c).length
    rw [List.length_set]
    exact cl.dom j b h1
theorem same_cell {a : Addr} {o : HO} (e : Same F H) (hn : F a = none) : Same F (upd H a o) := fun b u h => by
  rw [upd_ne]
  · exact e b u h
  · intro z
    rw [z, hn] at h
    cases h
theorem Grow.set {k : Nat} {a : Addr} {c : Cel} {o : HO} (e : Same F H) (cl : Cells K cm F H) (hk : cm.t k = some a) (hn : F a = none) (h : CelAt K ⟨cm.c, cm.t, cm.z.set k c⟩ F (upd H a o) a c) : Grow K cm F ⟨cm.c, cm.t, cm.z.set k c⟩ F (upd H a o) (cm.z.set k c) :=
  ⟨rfl, fun _ _ h => h, rfl, Same.refl F, same_cell e hn, cl.set hk hn h⟩
theorem Grow.snoc {a : Addr} {c : Cel} (e : Same F H) (cl : Cells K cm F H) (hF : F a = none) (ha : ∀ k, cm.t k ≠ some a) (h : CelAt K cm F H a c) : Grow K cm F (cm.snoc a c) F H (cm.z ++ [c]) :=
  ⟨rfl, CM.snoc_t cl, rfl, Same.refl F, e, cl.snoc hF ha h⟩
/-- a cell is settled -/
def celD : Cel → Option Dat
  | .lst xs => some (.lst xs)
  | .dct ks xs => some (.dct ks xs)
  | .obj c fs xs => some (.obj c fs xs)
  | .err _ => none
  | .gone => none
theorem Grow.dead {k : Nat} {a : Addr} (e : Same F H) (cl : Cells K cm F H) (hk : cm.t k = some a) (hn : F a = none) : Grow K cm F ⟨cm.c, cm.t, cm.z.set k .gone⟩ (plus F H [a]) H (cm.z.set k .gone) where
  c := rfl
  t := fun _ _ h => h
  z := rfl
  f := plus_same fun b hb => by rw [List.mem_singleton.mp hb]; exact hn
  fh := plus_le e
  cel := ⟨fun j d hj => by
    have hl := cl.dom k a hk
    have hs : Same F (plus F H [a]) := plus_same fun b hb => by rw [List.mem_singleton.mp hb]; exact hn
    by_cases e : k = j
    · subst e
      have : (cm.z.set k .gone)[k]? = some d := hj
      rw [List.getElem?_set_self hl] at this
      cases this
      exact ⟨a, hk, cl.own_ hk, fun hc => (hc rfl).elim⟩
    · have : (cm.z.set k .gone)[j]? = some d := hj
      rw [List.getElem?_set_ne e] at this
      obtain ⟨b, h1, ho, h2⟩ := cl.at_ j d this
      have ne : b ≠ a := fun z => by
        rw [z] at h1
        exact e (cl.inj k j a hk h1)
      refine ⟨b, h1, ho, fun hc => ?_⟩
      obtain ⟨h2, h3⟩ := h2 hc
      exact ⟨by rw [plus_out (by simpa using ne)]; exact h2, h3.cmono (cm := cm) (cm' := ⟨cm.c, cm.t, cm.z.set k .gone⟩) hs rfl (fun _ _ h => h) fun u hu => hu⟩, cl.inj, fun j b h1 => by
    show j < (cm.z.set k .gone).length
    rw [List.length_set]
    exact cl.dom j b h1⟩
theorem R.cel_inv {v : V} {k : Nat} (h : R K cm F v (.cel k)) : ∃ a, v = .ref a ∧ cm.t k = some a := by
  cases h with
  | cel h => exact ⟨_, rfl, h⟩
theorem Cells.get (cl : Cells K cm F H) {k : Nat} {a : Addr} {c : Cel} (hk : cm.t k = some a) (hz : cm.z[k]? = some c) (hc : c ≠ .gone := by intro h; cases h) : F a = none ∧ CelAt K cm F H a c := by
  obtain ⟨b, h1, ho, h2⟩ := cl.at_ k c hz
  rw [hk] at h1
  cases h1
  exact h2 hc
theorem CelAt.lst_inv {a : Addr} {xs : List Dat} (h : CelAt K cm F H a (.lst xs)) : ∃ vs, H a = some (.lst vs) ∧ Rs K cm F vs xs := by
  cases h with
  | lst h r => exact ⟨_, h, r⟩
theorem CelAt.dct_inv {a : Addr} {ks : List Key} {xs : List Dat} (h : CelAt K cm F H a (.dct ks xs)) : ∃ kvs, H a = some (.dK kvs) ∧ kvs.map (·.1) = ks ∧ Rs K cm F (kvs.map (·.2)) xs := by
  cases h with
  | dct h k r => exact ⟨_, h, k, r⟩
theorem CelAt.obj_inv {a : Addr} {c : Str} {fs : List Str} {xs : List Dat} (h : CelAt K cm F H a (.obj c fs xs)) : ∃ dx fvs, H a = some (.ins (cm c) dx fvs) ∧ fvs.map (·.1) = fs ∧ Rs K cm F (fvs.map (·.2)) xs := by
  cases h with
  | obj h k r => exact ⟨_, _, h, k, r⟩
theorem CelAt.err_inv {a : Addr} {c : Str} (h : CelAt K cm F H a (.err c)) : H a = some (ErrO (cm c) a) := by
  cases h with
  | err h => exact h
end

/-! ### readings that change the store -/
inductive EZ (α : Type) where
  | ok (z : Sto) (x : α)
  | exc (z : Sto) (n : Str)
  | bad
def EZ.bind {α β : Type} (x : EZ α) (f : Sto → α → EZ β) : EZ β := match x with
  | .ok z a => f z a
  | .exc z n => .exc z n
  | .bad => .bad
inductive RZ where
  | nx (z : Sto) (ρ : Rho) | ret (z : Sto) (d : Dat) | brk (z : Sto) (ρ : Rho) | cont (z : Sto) (ρ : Rho) | exc (z : Sto) (ρ : Rho) (n : Str) | bad
inductive OZ where
  | ok (z : Sto) (d : Dat)
  | exc (z : Sto) (n : Str)
abbrev RelZ (K : PySem.W.Frag) (cm : CM) (F H : Hp) (σ : L2.St) (ρ : Rho) : Prop := Rel K cm F H σ ρ (fun _ => [])
section
variable (K : PySem.W.Frag) (c : Str → Addr)
def PoE {α : Type} (P : CM → Hp → Hp → α → Prop) (X : CM → Hp → Hp → Str → Prop) (cm : CM) (F : Hp) : EZ α → Prop
  | .ok z' x => ∀ cm' F' H', Grow K cm F cm' F' H' z' → P cm' F' H' x
  | .exc z' n => ∀ cm' F' H', Grow K cm F cm' F' H' z' → X cm' F' H' n
  | .bad => False
def ofZE (W : L2.WX) (f : Sto → Rho → EZ Dat) : TE := fun σ H Q => ∃ cm F ρ, cm.c = c ∧ RelZ K cm F H σ ρ ∧ PoE K (fun cm' F' H' d => ∀ v, R K cm' F' v d → Q v H') (fun _ _ H' n => W (.ref (c n)) none σ H') cm F (f cm.z ρ)
def ofZT (W : L2.WX) (f : Sto → Rho → EZ Bool) : TT := fun σ H Q => ∃ cm F ρ, cm.c = c ∧ RelZ K cm F H σ ρ ∧ PoE K (fun _ _ H' b => Q b H') (fun _ _ H' n => W (.ref (c n)) none σ H') cm F (f cm.z ρ)
def ofZA (W : L2.WX) (f : Sto → Rho → EZ (List Dat)) : TA := fun σ H Q => ∃ cm F ρ, cm.c = c ∧ RelZ K cm F H σ ρ ∧ PoE K (fun cm' F' H' ds => ∀ vs, Rs K cm' F' vs ds → Q vs H') (fun _ _ H' n => W (.ref (c n)) none σ H') cm F (f cm.z ρ)
/-- the state of a body since its entry -/
def StaZ (cm0 : CM) (F0 : Hp) (z : Sto) (ρ : Rho) (σ : L2.St) (H : Hp) : Prop := ∃ cm F, Grow K cm0 F0 cm F H z ∧ RelZ K cm F H σ ρ
def PostZ (W : L2.WX) (cm0 : CM) (F0 : Hp) (D : Ends) : RZ → Prop
  | .nx z ρ => ∀ σ' H', StaZ K cm0 F0 z ρ σ' H' → D.nx σ' H'
  | .brk z ρ => ∀ σ' H', StaZ K cm0 F0 z ρ σ' H' → D.bk σ' H'
  | .cont z ρ => ∀ σ' H', StaZ K cm0 F0 z ρ σ' H' → D.ct σ' H'
  | .ret z d => ∀ v cm' F' H', Grow K cm0 F0 cm' F' H' z → R K cm' F' v d → D.rt v H'
  | .exc z ρ n => ∀ σ' H', StaZ K cm0 F0 z ρ σ' H' → W (.ref (c n)) none σ' H'
  | .bad => False
def ofZS (W : L2.WX) (b : Sto → Rho → RZ) : TS := fun D σ H => ∃ cm0 F0 z ρ, cm0.c = c ∧ StaZ K cm0 F0 z ρ σ H ∧ PostZ K c W cm0 F0 D (b z ρ)
/-- a def's promise -/
def spZ (g : Sto → List Dat → Option OZ) : Sp := fun vs H Q E => ∃ cm F ds o, cm.c = c ∧ Same F H ∧ Cells K cm F H ∧ Rs K cm F vs ds ∧ g cm.z ds = some o ∧ match o with
  | .ok z' d => ∀ v cm' F' H', Grow K cm F cm' F' H' z' → R K cm' F' v d → Q v H'
  | .exc z' n => ∀ cm' F' H', Grow K cm F cm' F' H' z' → E (.ref (c n)) none H'
/-- .. that reads the store -/
def spR (g : Sto → List Dat → Option Out) : Sp := fun vs H Q E => ∃ t z, spX K ⟨c, t, z⟩ (g z) vs H Q E
end
section
variable {X : Cx} {c : Str → Addr} {W : L2.WX} {e a b : Expr} {es : List Expr} {pos : Pos}
theorem spR_at {P : Program} {w : World} {K : PySem.W.Frag} {mg : Str → Option Value} {base : Heap} {k : Nat} {f : Addr} {fd : FuncData} {ps : List Str} {g : Sto → List Dat → Option Out} (G : FnOk P w K mg base (L2.CX P w) k f fd ps (spR K c g)) (t : Nat → Option Addr) (z : Sto) : FnOk P w K mg base (L2.CX P w) k f fd ps (spX K ⟨c, t, z⟩ (g z)) := G.imp fun vs H Q E h => ⟨t, z, h⟩
/-! pure expressions -/
def lif {α : Type} (f : Sto → Rho → Option α) (z : Sto) (ρ : Rho) : EZ α := match f z ρ with
  | some x => .ok z x
  | none => .bad
theorem ze (f : Sto → Rho → Option Dat) (h : ∀ t z, PE X e (ofE X.K ⟨c, t, z⟩ (f z))) : PE X e (ofZE X.K c W (lif f)) := ⟨fun pins s σ H Q I ⟨cm, F, ρ, hc, rel, q⟩ => by
  subst hc
  unfold lif at q
  cases hf : f cm.z ρ with
  | none => rw [hf] at q; exact q.elim
  | some d =>
    rw [hf] at q
    exact (h cm.t cm.z).run pins s σ H Q I ⟨F, ρ, _, d, rel, hf, fun v F' H' x r => q cm F' H' (Grow.ofExt x rel.cel) v r⟩⟩
theorem zt (f : Sto → Rho → Option Bool) (h : ∀ t z, PT X e (ofT X.K ⟨c, t, z⟩ (f z))) : PT X e (ofZT X.K c W (lif f)) := ⟨fun pins s σ H Q I ⟨cm, F, ρ, hc, rel, q⟩ => by
  subst hc
  unfold lif at q
  cases hf : f cm.z ρ with
  | none => rw [hf] at q; exact q.elim
  | some d =>
    rw [hf] at q
    exact (h cm.t cm.z).run pins s σ H Q I ⟨F, ρ, _, d, rel, hf, fun F' H' x => q cm F' H' (Grow.ofExt x rel.cel)⟩⟩
theorem za (f : Sto → Rho → Option (List Dat)) (h : ∀ t z, PA X es (ofA X.K ⟨c, t, z⟩ (f z))) : PA X es (ofZA X.K c W (lif f)) := ⟨fun pos pins s σ H Q I ⟨cm, F, ρ, hc, rel, q⟩ => by
  subst hc
  unfold lif at q
  cases hf : f cm.z ρ with
  | none => rw [hf] at q; exact q.elim
  | some d =>
    rw [hf] at q
    exact (h cm.t cm.z).run pos pins s σ H Q I ⟨F, ρ, _, d, rel, hf, fun vs F' H' x r => q cm F' H' (Grow.ofExt x rel.cel) vs r⟩⟩
/-- what is new becomes a cell -/
def froL : List SV → Option (List Dat)
  | [] => some []
  | .fro d :: xs => (froL xs).bind fun ds => some (d :: ds)
  | _ :: _ => none
theorem froL_is : ∀ {xs : List SV} {ds : List Dat}, froL xs = some ds → xs = ds.map SV.fro
  | [], _, h => by cases h; rfl
  | x :: xs, _, h => by
    cases x with
    | fro d =>
      obtain ⟨ds, e1, h⟩ := bind_some h
      cases h
      rw [froL_is e1]
      rfl
    | _ => cases h
def celOf : SV → Option Cel
  | .ol xs => (froL xs).bind fun ds => some (.lst ds)
  | .od ks xs => (froL xs).bind fun ds => some (.dct ks ds)
  | _ => none
def newZ (f : Sto → Rho → Option SV) (z : Sto) (ρ : Rho) : EZ Dat := match (f z ρ).bind celOf with
  | some c => .ok (z ++ [c]) (.cel z.length)
  | none => .bad
theorem ros_fro' {K : PySem.W.Frag} {cm : CM} {F H : Hp} : ∀ {vs : List V} {ds : List Dat} {A : List Addr}, ROs K cm F H vs (ds.map SV.fro) A → Rs K cm F vs ds
  | _, [], _, .nil => .nil
  | _, d :: ds, _, .cons r t => .cons r.fro_inv (ros_fro' t)
theorem zcell (f : Sto → Rho → Option SV) (h : ∀ t z, PE X e (ofO X.K ⟨c, t, z⟩ (f z))) : PE X e (ofZE X.K c W (newZ f)) := ⟨fun pins s σ H Q I ⟨cm, F, ρ, hc, rel, q⟩ => by
  subst hc
  unfold newZ at q
  cases hf : f cm.z ρ with
  | none => rw [hf] at q; exact q.elim
  | some sv =>
    rw [hf, Option.bind_some] at q
    refine (h cm.t cm.z).run pins s σ H Q I ⟨F, ρ, _, sv, rel, hf, fun v F' H' A x r nd nA => ?_⟩
    have cl := rel.cel.ext x
    have notc : ∀ a ∈ A, ∀ k, cm.t k ≠ some a := fun a ha k hk => by
      obtain ⟨o, q⟩ := rel.cel.own_ hk
      rw [nA a ha] at q
      cases q
    cases sv with
    | ol xs =>
      cases hx : froL xs with
      | none => rw [celOf, hx] at q; exact q.elim
      | some ds =>
        rw [celOf, hx] at q
        obtain ⟨a, vs, B, rfl, eA, h1, h2, h3⟩ := r.ol_inv
        rw [froL_is hx] at h3
        have g := Grow.snoc (c := .lst ds) x.fh cl h1 (notc a (by rw [eA]; simp)) (.lst h2 (ros_fro' h3))
        exact q _ F' H' ((Grow.ofExt x rel.cel).trans g) (.ref a) (.cel (by show (if cm.z.length = cm.z.length then some a else _) = _; rw [if_pos rfl]))
    | od ks xs =>
      cases hx : froL xs with
      | none => rw [celOf, hx] at q; exact q.elim
      | some ds =>
        rw [celOf, hx] at q
        obtain ⟨a, kvs, B, rfl, eA, h1, h2, h3, h4⟩ := r.od_inv
        rw [froL_is hx] at h4
        have g := Grow.snoc (c := .dct ks ds) x.fh cl h1 (notc a (by rw [eA]; simp)) (.dct h2 h3 (ros_fro' h4))
        exact q _ F' H' ((Grow.ofExt x rel.cel).trans g) (.ref a) (.cel (by show (if cm.z.length = cm.z.length then some a else _) = _; rw [if_pos rfl]))
    | fro d => exact q.elim
    | oo a c fs xs => exact q.elim
    | tp xs => exact q.elim⟩
/-! arguments -/
def nilZ (z : Sto) (ρ : Rho) : EZ (List Dat) := .ok z []
def consZ (f : Sto → Rho → EZ Dat) (g : Sto → Rho → EZ (List Dat)) (z : Sto) (ρ : Rho) : EZ (List Dat) := (f z ρ).bind fun z1 x => (g z1 ρ).bind fun z2 xs => .ok z2 (x :: xs)
theorem za_nil : PA X [] (ofZA X.K c W nilZ) := PA.imp pa_nil fun σ H Q ⟨cm, F, ρ, hc, rel, q⟩ => q cm F H (Grow.refl rel.fh rel.cel) [] .nil
theorem RelZ.grow {K : PySem.W.Frag} {cm cm' : CM} {F F' H H' : Hp} {σ : L2.St} {ρ : Rho} {z' : Sto} (r : RelZ K cm F H σ ρ) (g : Grow K cm F cm' F' H' z') : RelZ K cm' F' H' σ ρ where
  len := r.len
  fh := g.fh
  at_ := fun i sv h => by
    obtain ⟨v, h1, h2⟩ := r.at_ i sv h
    refine ⟨v, h1, ?_⟩
    cases sv with
    | fro d => exact .fro (g.r h2.fro_inv)
    | ol xs => obtain ⟨a, vs, B, _, e, _⟩ := h2.ol_inv; cases e
    | od ks xs => obtain ⟨a, vs, B, _, e, _⟩ := h2.od_inv; cases e
    | oo a c fs xs => cases h2
    | tp xs => cases h2
  nd := fun _ => .nil
  sep := fun _ _ _ a h => by simp at h
  own := fun _ a h => by simp at h
  cel := g.cel
  out := fun _ a h => by simp at h
theorem PoE.bind {K : PySem.W.Frag} {α β : Type} {P : CM → Hp → Hp → β → Prop} {Xc : CM → Hp → Hp → Str → Prop} {cm : CM} {F : Hp} {x : EZ α} {f : Sto → α → EZ β} (h : PoE K P Xc cm F (x.bind f)) : PoE K (fun cm' F' H' a => PoE K P Xc cm' F' (f cm'.z a)) Xc cm F x := by
  cases x with
  | ok z a =>
    intro cm' F' H' g
    have h' : PoE K P Xc cm F (f z a) := h
    rw [g.z]
    cases hf : f z a with
    | ok z2 y =>
      rw [hf] at h'
      exact fun cm2 F2 H2 g2 => h' cm2 F2 H2 (g.trans g2)
    | exc z2 n =>
      rw [hf] at h'
      exact fun cm2 F2 H2 g2 => h' cm2 F2 H2 (g.trans g2)
    | bad => rw [hf] at h'; exact h'
  | exc z n => exact h
  | bad => exact h
theorem PoE.mono {K : PySem.W.Frag} {α : Type} {P P' : CM → Hp → Hp → α → Prop} {Xc Xc' : CM → Hp → Hp → Str → Prop} {cm : CM} {F : Hp} {x : EZ α} (h : PoE K P Xc cm F x) (hp : ∀ cm' F' H' a z', Grow K cm F cm' F' H' z' → P cm' F' H' a → P' cm' F' H' a) (hx : ∀ cm' F' H' n z', Grow K cm F cm' F' H' z' → Xc cm' F' H' n → Xc' cm' F' H' n) : PoE K P' Xc' cm F x := by
  cases x with
  | ok z a => exact fun cm' F' H' g => hp _ _ _ _ _ g (h cm' F' H' g)
  | exc z n => exact fun cm' F' H' g => hx _ _ _ _ _ g (h cm' F' H' g)
  | bad => exact h
theorem za_cons {f : Sto → Rho → EZ Dat} {g : Sto → Rho → EZ (List Dat)} (h1 : PE X e (ofZE X.K c W f)) (h2 : PA X es (ofZA X.K c W g)) (he : starEach (e :: es) X.env = (false, eval e X.env) :: starEach es X.env := by rfl) : PA X (e :: es) (ofZA X.K c W (consZ f g)) :=
  PA.imp (pa_cons h1 h2 he) fun σ H Q ⟨cm, F, ρ, hc, rel, q⟩ => by
    refine ⟨cm, F, ρ, hc, rel, PoE.mono (PoE.bind q) (fun cm1 F1 H1 d z1 g1 q1 v r => ?_) fun _ _ _ _ _ _ h => h⟩
    refine ⟨cm1, F1, ρ, g1.c.trans hc, rel.grow g1, PoE.mono (PoE.bind q1) (fun cm2 F2 H2 ds z2 g2 q2 vs rs => ?_) fun _ _ _ _ _ _ h => h⟩
    exact q2 cm2 F2 H2 (Grow.refl g2.fh g2.cel) (v :: vs) (.cons (g2.r r) rs)
end
end
end Pq

namespace Pq
open PySem PySem.Spec PyProof.Rows L2
noncomputable section
section
variable {X : Cx} {c : Str → Addr} {W : L2.WX} {e a b o : Expr} {es : List Expr} {pos p apos : Pos} {st : Stmt} {sts : List Stmt} {k : Nat} {f C : Addr} {fd : FuncData} {ps : List Str} {g : Sto → List Dat → Option OZ} {x m : Str} {cn : Str}
/-! ### calls -/
def ozE : Option OZ → EZ Dat
  | some (.ok z d) => .ok z d
  | some (.exc z n) => .exc z n
  | none => .bad
def callZ (g : Sto → List Dat → Option OZ) (fa : Sto → Rho → EZ (List Dat)) (z : Sto) (ρ : Rho) : EZ Dat := (fa z ρ).bind fun z1 ds => ozE (g z1 ds)
theorem spZ_of {K : PySem.W.Frag} {cm : CM} {F H : Hp} {vs : List V} {ds : List Dat} {Q : VK} {σ : L2.St} (e : Same F H) (cl : Cells K cm F H) (rs : Rs K cm F vs ds) (h : PoE K (fun cm' F' H' d => ∀ v, R K cm' F' v d → Q v H') (fun _ _ H' n => W (.ref (cm.c n)) none σ H') cm F (ozE (g cm.z ds))) : spZ K cm.c g vs H Q (WE W σ) := by
  cases hg : g cm.z ds with
  | none => rw [hg] at h; exact h.elim
  | some o =>
    rw [hg] at h
    refine ⟨cm, F, ds, o, rfl, e, cl, rs, hg, ?_⟩
    cases o with
    | ok z' d => exact fun v cm' F' H' g r => h cm' F' H' g v r
    | exc z' n => exact fun cm' F' H' g => h cm' F' H' g
theorem z_call {fa : Sto → Rho → EZ (List Dat)} (tk : Takes X W) (G : FnOk X.prog X.w X.K X.mg X.base (L2.CX X.prog X.w) k f fd ps (spZ X.K c g)) (hr : Room k X.A) (hg : Gl X x) (hm : X.mg x = some (.ref f)) (hk : PySem.W.keepIn X.K (.ref f) = true) (hb : Binds X.K fd ps []) (ha : PA X (e :: es) (ofZA X.K c W fa))
    (hdb : (x == ("__debug__" : Str)) = false := by decide) (he : starEach (e :: es) X.env = (false, eval e X.env) :: starEach es X.env := by rfl) (hpl : (backTo pos (starEach es X.env)).any (·.1) = false := by rfl) : PE X (.Call (.Name x p) (e :: es) [] pos) (ofZE X.K c W (callZ g fa)) :=
  PE.imp (pe_callS (E := WE W) G hr hg hm hk hb (fun σ => passAt tk σ) ha hdb he hpl) fun σ H Q ⟨cm, F, ρ, hc, rel, q⟩ => by
    subst hc
    exact ⟨cm, F, ρ, rfl, rel, PoE.mono (PoE.bind q) (fun cm1 F1 H1 ds z1 g1 q1 vs rs => by
      have := spZ_of (W := W) (σ := σ) (Q := Q) (g := g) g1.fh g1.cel rs (by rw [g1.c]; exact q1)
      rw [g1.c] at this
      exact this) fun _ _ _ _ _ _ h => h⟩
theorem run0S {pins : List (Addr × Obj)} {σ : L2.St} {H : Hp} {s : Shared} {Q : VK} {sp : Sp} (tk : Takes X W) (G : FnOk X.prog X.w X.K X.mg X.base (L2.CX X.prog X.w) k f fd ps sp) (hr : Room k X.A) (hb : Binds X.K fd ps []) (I : Inv X pins σ H s) (h : sp [] H Q (WE W σ)) : wpAny (model X.prog X.w) X.A (call (.ref f) []) (EP X pins σ Q) X.xe s := run_fnS (us := []) (E := WE W) G hr hb (passAt tk σ) I .nil h
theorem z_call0 (tk : Takes X W) (G : FnOk X.prog X.w X.K X.mg X.base (L2.CX X.prog X.w) k f fd ps (spZ X.K c g)) (hr : Room k X.A) (hg : Gl X x) (hm : X.mg x = some (.ref f)) (hk : PySem.W.keepIn X.K (.ref f) = true) (hb : Binds X.K fd ps []) (hdb : (x == ("__debug__" : Str)) = false := by decide) :
    PE X (.Call (.Name x p) [] [] pos) (ofZE X.K c W (callZ g nilZ)) := ⟨fun pins s σ H Q I ⟨cm, F, ρ, hc, rel, q⟩ => by
  subst hc
  exact wpAny_Call_Name_kw (ld_glob I hg hm (PySem.W.callWith_K0 I.kIn hk (run0S tk G hr hb I (spZ_of rel.fh rel.cel .nil q))) hdb)⟩
/-- an instance of the class, a cell or not, without a field of the name -/
def isIn (z : Sto) (cn m : Str) : Dat → Bool
  | .cel k => match z[k]? with
    | some (.obj c' fl _) => decide (c' = cn) && decide (m ∉ fl)
    | _ => false
  | .obj c' fl _ => decide (c' = cn) && decide (m ∉ fl)
  | _ => false
theorem isIn_at {K : PySem.W.Frag} {cm : CM} {F H : Hp} {v : V} {d : Dat} (e : Same F H) (cl : Cells K cm F H) (r : R K cm F v d) (h : isIn cm.z cn m d = true) : ∃ a dx fs, v = .ref a ∧ H a = some (.ins (cm cn) dx fs) ∧ fs.lookup m = none := by
  unfold isIn at h
  split at h
  · rename_i k
    split at h
    · rename_i c' fl xs hz
      rw [Bool.and_eq_true] at h
      obtain ⟨a, rfl, ht⟩ := r.cel_inv
      obtain ⟨n, hc⟩ := cl.get ht hz
      obtain ⟨dx, fvs, h1, h2, h3⟩ := hc.obj_inv
      refine ⟨a, dx, fvs, rfl, ?_, lookup_none ?_⟩
      · rw [h1, of_decide_eq_true h.1]
      · rw [h2]; exact of_decide_eq_true h.2
    · cases h
  · rw [Bool.and_eq_true] at h
    obtain ⟨a, dx, fvs, rfl, h1, h2, h3⟩ := r.obj_inv
    refine ⟨a, dx, fvs, rfl, ?_, lookup_none ?_⟩
    · rw [e _ _ h1, of_decide_eq_true h.1]
    · rw [h2]; exact of_decide_eq_true h.2
  · cases h
def methZ (cn m : Str) (g : Sto → List Dat → Option OZ) (fo : Sto → Rho → EZ Dat) (fa : Sto → Rho → EZ (List Dat)) (z : Sto) (ρ : Rho) : EZ Dat := (fo z ρ).bind fun z1 d => if isIn z1 cn m d = true then (fa z1 ρ).bind fun z2 ds => ozE (g z2 (d :: ds)) else .bad
theorem z_meth (tk : Takes X W) (hc : Cls X.K (c cn)) (hm : Meth X.K (c cn) m f) (G : FnOk X.prog X.w X.K X.mg X.base (L2.CX X.prog X.w) k f fd ps (spZ X.K c g)) (hr : Room k X.A) (hb : Binds X.K fd ps []) {fo : Sto → Rho → EZ Dat} {fa : Sto → Rho → EZ (List Dat)} (ho : PE X o (ofZE X.K c W fo)) (ha : PA X (e :: es) (ofZA X.K c W fa))
    (hst : starEach (e :: es) X.env = (false, eval e X.env) :: starEach es X.env := by rfl) (hpl : (backTo pos (starEach es X.env)).any (·.1) = false := by rfl) {pl : Sem Bool}
    (ht : eval (.Call (.Attribute o m apos) (e :: es) [] pos) X.env = (do let ov ← eval o X.env; standAt apos.atName; let (f, first) ← holding [ov] (getMethod ov m pl); callWith pos f first (backTo pos (starEach (e :: es) X.env)) (backToKw pos (keywordEach [] X.env))) := by rfl) :
    PE X (.Call (.Attribute o m apos) (e :: es) [] pos) (ofZE X.K c W (methZ cn m g fo fa)) := ⟨fun pins s σ H Q I ⟨cm, F, ρ, hcc, rel, q⟩ => by
  subst hcc
  refine PySem.W.methodCall_KW (pl := pl) (thn (ho.run pins s σ H (fun v H1 => ∃ a dx fs, v = .ref a ∧ H1 a = some (.ins (cm cn) dx fs) ∧ fs.lookup m = none ∧ ofZA X.K cm.c W (fun z ρ => fa z ρ) σ H1 fun vs H2 => spZ X.K cm.c g (v :: vs) H2 Q (WE W σ)) I ⟨cm, F, ρ, rfl, rel, PoE.mono (PoE.bind q) (fun cm1 F1 H1 d z1 g1 q1 v r => ?_) fun _ _ _ _ _ _ h => h⟩) fun u s1 ⟨x, H1, I1, rx, a, dx, fs, ex, ea, l, q1⟩ => ?_) ht
  · by_cases hi : isIn cm1.z cn m d = true
    · rw [if_pos hi] at q1
      obtain ⟨a, dx, fs, ev, h1, h2⟩ := isIn_at g1.fh g1.cel r hi
      rw [show cm1 cn = cm cn from congrFun g1.c cn] at h1
      refine ⟨a, dx, fs, ev, h1, h2, cm1, F1, ρ, g1.c, rel.grow g1, PoE.mono (PoE.bind q1) (fun cm2 F2 H2 ds z2 g2 q2 vs rs => ?_) fun _ _ _ _ _ _ h => h⟩
      have gc : cm2.c = cm.c := g2.c.trans g1.c
      have := spZ_of (W := W) (σ := σ) (Q := Q) (g := g) g2.fh g2.cel (.cons (g2.r r) rs) (by rw [gc]; exact q2)
      rw [gc] at this
      exact this
    · rw [if_neg hi] at q1
      exact q1.elim
  · subst ex
    have eu : u = Value.ref a := rx
    subst eu
    refine getmeth_ok I1 ea hc hm l ?_
    exact PySem.W.callWith_K (first := [.ref a]) (h₀ := X.base) I1.ok.mod.kin hm.kp (thn (ha.run pos pins s1 σ H1 _ I1 q1) fun us s2 ⟨vs, H2, I2, r, q2⟩ => ⟨I2.kIn, run_fnS (us := .ref a :: us) (vs := .ref a :: vs) (E := WE W) G hr hb (passAt tk σ) I2 (.cons rfl r) q2⟩) hst hpl⟩
theorem z_meth0 (tk : Takes X W) (hc : Cls X.K (c cn)) (hm : Meth X.K (c cn) m f) (G : FnOk X.prog X.w X.K X.mg X.base (L2.CX X.prog X.w) k f fd ps (spZ X.K c g)) (hr : Room k X.A) (hb : Binds X.K fd ps []) {fo : Sto → Rho → EZ Dat} (ho : PE X o (ofZE X.K c W fo)) {pl : Sem Bool}
    (ht : eval (.Call (.Attribute o m apos) [] [] pos) X.env = (do let ov ← eval o X.env; standAt apos.atName; let (f, first) ← holding [ov] (getMethod ov m pl); callWith pos f first (backTo pos (starEach [] X.env)) (backToKw pos (keywordEach [] X.env))) := by rfl) :
    PE X (.Call (.Attribute o m apos) [] [] pos) (ofZE X.K c W (methZ cn m g fo nilZ)) := ⟨fun pins s σ H Q I ⟨cm, F, ρ, hcc, rel, q⟩ => by
  subst hcc
  refine PySem.W.methodCall_KW (pl := pl) (thn (ho.run pins s σ H (fun v H1 => ∃ a dx fs, v = .ref a ∧ H1 a = some (.ins (cm cn) dx fs) ∧ fs.lookup m = none ∧ spZ X.K cm.c g [v] H1 Q (WE W σ)) I ⟨cm, F, ρ, rfl, rel, PoE.mono (PoE.bind q) (fun cm1 F1 H1 d z1 g1 q1 v r => ?_) fun _ _ _ _ _ _ h => h⟩) fun u s1 ⟨x, H1, I1, rx, a, dx, fs, ex, ea, l, q1⟩ => ?_) ht
  · by_cases hi : isIn cm1.z cn m d = true
    · rw [if_pos hi] at q1
      obtain ⟨a, dx, fs, ev, h1, h2⟩ := isIn_at g1.fh g1.cel r hi
      rw [show cm1 cn = cm cn from congrFun g1.c cn] at h1
      refine ⟨a, dx, fs, ev, h1, h2, ?_⟩
      have := spZ_of (W := W) (σ := σ) (Q := Q) (g := g) g1.fh g1.cel (.cons r .nil) (by rw [g1.c]; exact q1)
      rw [g1.c] at this
      exact this
    · rw [if_neg hi] at q1
      exact q1.elim
  · subst ex
    have eu : u = Value.ref a := rx
    subst eu
    refine getmeth_ok I1 ea hc hm l ?_
    exact PySem.W.callWith_K0 (first := [.ref a]) I1.kIn hm.kp (run_fnS (us := [.ref a]) (vs := [.ref a]) (E := WE W) G hr hb (passAt tk σ) I1 (.cons rfl .nil) q1)⟩
/-! a new object, a cell -/
def mkZ (cn : Str) (g : Sto → List Dat → Option OZ) (fa : Sto → Rho → EZ (List Dat)) (z : Sto) (ρ : Rho) : EZ Dat := (fa z ρ).bind fun z1 ds => (ozE (g (z1 ++ [.obj cn [] []]) (.cel z1.length :: ds))).bind fun z2 _ => .ok z2 (.cel z1.length)
theorem ozE_pay {K : PySem.W.Frag} {cm : CM} {F : Hp} {P : CM → Hp → Hp → Dat → Prop} {Xc : CM → Hp → Hp → Str → Prop} {y : Option OZ} (h : PoE K P Xc cm F (ozE y)) : PoE K P Xc cm F (ozE y) := h
theorem make_run {pins : List (Addr × Obj)} {σ : L2.St} {H : Hp} {s : Shared} {Q : VK} {us : List Value} {vs : List V} {ds : List Dat} {cm : CM} {F : Hp} (tk : Takes X W) (M : Mk X.K (cm.c cn) f) (G : FnOk X.prog X.w X.K X.mg X.base (L2.CX X.prog X.w) k f fd ps (spZ X.K cm.c g)) (hr : Room (k + 1) X.A) (hb : Binds X.K fd ps []) (hn : ∀ z ds z' d, g z ds = some (.ok z' d) → d = .non)
    (I : Inv X pins σ H s) (r : Vals vs us) (e : Same F H) (cl : Cells X.K cm F H) (rs : Rs X.K cm F vs ds)
    (q : PoE X.K (fun cm' F' H' d => ∀ v, R X.K cm' F' v d → Q v H') (fun _ _ H' n => W (.ref (cm.c n)) none σ H') cm F ((ozE (g (cm.z ++ [.obj cn [] []]) (.cel cm.z.length :: ds))).bind fun z2 _ => .ok z2 (.cel cm.z.length))) :
    wpAny (model X.prog X.w) X.A (call (.ref (cm.c cn)) us) (EP X pins σ Q) X.xe s := by
  have hx : H (s.heap.objs.size + 1) = none := I.hok.fresh (Nat.le_succ _)
  have hdx : H s.heap.objs.size = none := I.hok.fresh (Nat.le_refl _)
  have hne : s.heap.objs.size ≠ s.heap.objs.size + 1 := Nat.ne_of_lt (Nat.lt_succ_self _)
  have I2 := Inv.made (C := cm.c cn) I
  generalize hxe : s.heap.objs.size + 1 = x at hx hne I2
  generalize hde : s.heap.objs.size = dx at hdx hne I2
  have hs : Same F (upd (upd H dx (.own x)) x (.ins (cm.c cn) dx [])) := fun b u h => by
    have h1 := e _ _ h
    rw [upd_ne (ne_of_none h1 hx), upd_ne (ne_of_none h1 hdx)]
    exact h1
  have xt : Ext F H F (upd (upd H dx (.own x)) x (.ins (cm.c cn) dx [])) := ⟨Same.refl F, fun b u h => by
    rw [upd_ne (ne_of_none h hx), upd_ne (ne_of_none h hdx)]
    exact h, hs, fun a o h z => by rw [h] at z; cases z⟩
  have cl1 := cl.ext xt
  have notc : ∀ j, cm.t j ≠ some x := fun j hj => by
    obtain ⟨o, q⟩ := cl.own_ hj
    rw [hx] at q
    cases q
  have g1 : Grow X.K cm F (cm.snoc x (.obj cn [] [])) F (upd (upd H dx (.own x)) x (.ins (cm.c cn) dx [])) (cm.z ++ [.obj cn [] []]) := (Grow.ofExt xt cl).trans (Grow.snoc hs cl1 (e.free hx) notc (.obj (dx := dx) (fvs := []) upd_same rfl .nil))
  have rx : R X.K (cm.snoc x (.obj cn [] [])) F (.ref x) (.cel cm.z.length) := .cel (by show (if cm.z.length = cm.z.length then some x else _) = _; rw [if_pos rfl])
  have hq : spZ X.K cm.c g (.ref x :: vs) (upd (upd H dx (.own x)) x (.ins (cm.c cn) dx [])) (fun v H2 => v = .non ∧ Q (.ref x) H2) (WE W σ) := by
    refine ⟨cm.snoc x (.obj cn [] []), F, .cel cm.z.length :: ds, ?_⟩
    cases hg : g (cm.z ++ [.obj cn [] []]) (.cel cm.z.length :: ds) with
    | none => rw [hg] at q; exact q.elim
    | some o =>
      rw [hg] at q
      refine ⟨o, rfl, hs, g1.cel, .cons rx (g1.rs rs), hg, ?_⟩
      cases o with
      | ok z' d =>
        intro v cm' F' H' g2 r2
        have := hn _ _ _ _ hg
        subst this
        refine ⟨r2.non_inv, ?_⟩
        exact q cm' F' H' (g1.trans g2) (.ref x) (g2.r rx)
      | exc z' n => exact fun cm' F' H' g2 => q cm' F' H' (g1.trans g2)
  have r2 : Vals (V.ref x :: vs) (Value.ref x :: us) := .cons rfl r
  have hl : (Value.ref x :: us).length = ps.length := by
    rw [← r2.length]
    exact G.len _ _ _ _ hq
  have bb := hb { s with heap := _ } (Value.ref x :: us) I2.kIn (by rw [List.append_nil]; exact hl)
  rw [List.append_nil] at bb
  subst hxe hde
  refine wpAny_call (make_map (f := f) I.kIn M.makes M.init (beq_iff_eq.mp M.fn) (codeAny_mono (G.run _ X.stack _ _ ⟨_ :: us, []⟩ (_ :: us) _ _ (WE W σ) (hr.make (cm.c cn) us []) (I2.env0.make (cm.c cn) us []) bb r2 hq) fun r s' hq' => ?_))
  cases r with
  | error e => exact passAt tk σ pins _ _ e s' I2 hq'
  | ok fl =>
    cases fl with
    | ret u =>
      obtain ⟨v, H', I3, rv, ev, q3⟩ := I2.after hq'
      subst ev
      exact ⟨rv, V.ref _, H', I3, rfl, q3⟩
    | next => exact hq'.elim
    | brk => exact hq'.elim
    | cont => exact hq'.elim
theorem z_make {fa : Sto → Rho → EZ (List Dat)} (tk : Takes X W) (M : Mk X.K (c cn) f) (G : FnOk X.prog X.w X.K X.mg X.base (L2.CX X.prog X.w) k f fd ps (spZ X.K c g)) (hr : Room (k + 1) X.A) (hg : Gl X x) (hm : X.mg x = some (.ref (c cn))) (hb : Binds X.K fd ps []) (hn : ∀ z ds z' d, g z ds = some (.ok z' d) → d = .non) (ha : PA X (e :: es) (ofZA X.K c W fa))
    (hdb : (x == ("__debug__" : Str)) = false := by decide) (he : starEach (e :: es) X.env = (false, eval e X.env) :: starEach es X.env := by rfl) (hpl : (backTo pos (starEach es X.env)).any (·.1) = false := by rfl) : PE X (.Call (.Name x p) (e :: es) [] pos) (ofZE X.K c W (mkZ cn g fa)) := ⟨fun pins s σ H Q I ⟨cm, F, ρ, hc, rel, q⟩ => by
  subst hc
  refine wpAny_Call_Name_kw (ld_glob I hg hm (PySem.W.callWith_K (h₀ := X.base) I.ok.mod.kin M.kp (thn (ha.run pos pins s σ H (fun vs H1 => ∃ cm1 F1 ds, cm1.c = cm.c ∧ Same F1 H1 ∧ Cells X.K cm1 F1 H1 ∧ Rs X.K cm1 F1 vs ds ∧ PoE X.K (fun cm' F' H' d => ∀ v, R X.K cm' F' v d → Q v H') (fun _ _ H' n => W (.ref (cm.c n)) none σ H') cm1 F1 ((ozE (g (cm1.z ++ [.obj cn [] []]) (.cel cm1.z.length :: ds))).bind fun z2 _ => .ok z2 (.cel cm1.z.length))) I
    ⟨cm, F, ρ, rfl, rel, PoE.mono (PoE.bind q) (fun cm1 F1 H1 ds z1 g1 q1 vs rs => ⟨cm1, F1, ds, g1.c, g1.fh, g1.cel, rs, q1⟩) fun _ _ _ _ _ _ h => h⟩) fun us s1 ⟨vs, H1, I1, r, cm1, F1, ds, e1, e2, e3, e4, e5⟩ => ⟨I1.kIn, ?_⟩) he hpl) hdb)
  rw [← e1]
  exact make_run tk (by rw [e1]; exact M) (by rw [e1]; exact G) hr hb hn I1 r e2 e3 e4 (by rw [e1]; exact e5)⟩
theorem z_make0 (tk : Takes X W) (M : Mk X.K (c cn) f) (G : FnOk X.prog X.w X.K X.mg X.base (L2.CX X.prog X.w) k f fd ps (spZ X.K c g)) (hr : Room (k + 1) X.A) (hg : Gl X x) (hm : X.mg x = some (.ref (c cn))) (hb : Binds X.K fd ps []) (hn : ∀ z ds z' d, g z ds = some (.ok z' d) → d = .non) (hdb : (x == ("__debug__" : Str)) = false := by decide) :
    PE X (.Call (.Name x p) [] [] pos) (ofZE X.K c W (mkZ cn g nilZ)) := ⟨fun pins s σ H Q I ⟨cm, F, ρ, hc, rel, q⟩ => by
  subst hc
  exact wpAny_Call_Name_kw (ld_glob I hg hm (PySem.W.callWith_K0 I.kIn M.kp (make_run tk M G hr hb hn I .nil rel.fh rel.cel .nil q)) hdb)⟩
end
end
end Pq

namespace Pq
open PySem PySem.Spec PyProof.Rows L2
noncomputable section
section
variable {X : Cx} {c : Str → Addr} {W : L2.WX} {e : Expr} {st : Stmt} {sts : List Stmt} {pos : Pos} {f : Sto → Rho → EZ Dat} {b b' : Sto → Rho → RZ} {t : Sto → Rho → EZ Bool}
/-! ### statements -/
def toRZ {α : Type} (x : EZ α) (ρ : Rho) (k : Sto → α → RZ) : RZ := match x with
  | .ok z a => k z a
  | .exc z n => .exc z ρ n
  | .bad => .bad
theorem post_e {K : PySem.W.Frag} {α : Type} {cm0 cm : CM} {F0 F H : Hp} {z : Sto} {σ : L2.St} {ρ : Rho} {D : Ends} {x : EZ α} {k : Sto → α → RZ} {P : CM → Hp → Hp → α → Prop} (g : Grow K cm0 F0 cm F H z) (rel : RelZ K cm F H σ ρ) (q : PostZ K c W cm0 F0 D (toRZ x ρ k))
    (h : ∀ cm' F' H' z' a, StaZ K cm0 F0 z' ρ σ H' → Grow K cm F cm' F' H' z' → Grow K cm0 F0 cm' F' H' z' → RelZ K cm' F' H' σ ρ → PostZ K c W cm0 F0 D (k z' a) → P cm' F' H' a) : PoE K P (fun _ _ H' n => W (.ref (c n)) none σ H') cm F x := by
  cases x with
  | ok z1 a => exact fun cm' F' H' g' => h cm' F' H' z1 a ⟨cm', F', g.trans g', rel.grow g'⟩ g' (g.trans g') (rel.grow g') q
  | exc z1 n => exact fun cm' F' H' g' => q σ H' ⟨cm', F', g.trans g', rel.grow g'⟩
  | bad => exact q
theorem RelZ.setZ {K : PySem.W.Frag} {cm : CM} {F H : Hp} {σ : L2.St} {ρ : Rho} (r : RelZ K cm F H σ ρ) {i : Nat} {v : V} {d : Dat} (h : R K cm F v d) : RelZ K cm F H (σ.set i (some v)) (ρ.set i (some (.fro d))) := by
  have q := Rel.setD r (i := i) h
  have e : (fun j => if j = i then [] else (fun _ => ([] : List Addr)) j) = fun _ => [] := funext fun j => by simp
  rw [e] at q
  exact q
def asgZ (i : Nat) (f : Sto → Rho → EZ Dat) (z : Sto) (ρ : Rho) : RZ := toRZ (f z ρ) ρ fun z d => .nx z (ρ.set i (some (.fro d)))
theorem z_set {i : Nat} {x : Str} {pos' : Pos} (hN : X.N.Nodup) (hi : X.N[i]? = some x) (hx : Loc X.env.scope x) (he : PE X e (ofZE X.K c W f)) (hs : swapsWith e (some (.Name x pos')) pos.line X.env = pure false := by rfl) (hf : X.fn x = true ∨ X.env.scope.names.lookup x = some .local := by first | exact .inl rfl | exact .inr rfl | assumption) :
    PS X (.Assign [.Name x pos'] e pos) (ofZS X.K c W (asgZ i f)) := PS.imp (ps_set hN hi hx he hs hf) fun D σ H ⟨cm0, F0, z, ρ, hc, ⟨cm, F, g, rel⟩, q⟩ => by
  have ez := g.z
  subst ez
  exact ⟨cm, F, ρ, g.c.trans hc, rel, post_e g rel q fun cm' F' H' z' d s g1 g2 r2 q2 v r => q2 _ _ ⟨cm', F', g2, r2.setZ r⟩⟩
def retZ (f : Sto → Rho → EZ Dat) (z : Sto) (ρ : Rho) : RZ := toRZ (f z ρ) ρ fun z d => .ret z d
theorem z_ret (he : PE X e (ofZE X.K c W f)) : PS X (.Return (some e) pos) (ofZS X.K c W (retZ f)) := PS.imp (ps_ret he) fun D σ H ⟨cm0, F0, z, ρ, hc, ⟨cm, F, g, rel⟩, q⟩ => by
  have ez := g.z
  subst ez
  exact ⟨cm, F, ρ, g.c.trans hc, rel, post_e g rel q fun cm' F' H' z' d s g1 g2 r2 q2 v r => q2 v cm' F' H' g2 r⟩
def rtNZ (z : Sto) (ρ : Rho) : RZ := .ret z .non
theorem z_retN : PS X (.Return none pos) (ofZS X.K c W rtNZ) := PS.imp ps_retN fun D σ H ⟨cm0, F0, z, ρ, hc, ⟨cm, F, g, rel⟩, q⟩ => q .non cm F H g .non
def drpZ (f : Sto → Rho → EZ Dat) (z : Sto) (ρ : Rho) : RZ := toRZ (f z ρ) ρ fun z _ => .nx z ρ
theorem z_expr (he : PE X e (ofZE X.K c W f)) (hs : swapsWith e none pos.line X.env = pure false := by rfl) : PS X (.Expr e pos) (ofZS X.K c W (drpZ f)) := PS.imp (ps_expr he hs) fun D σ H ⟨cm0, F0, z, ρ, hc, ⟨cm, F, g, rel⟩, q⟩ => by
  have ez := g.z
  subst ez
  exact ⟨cm, F, ρ, g.c.trans hc, rel, post_e g rel q fun cm' F' H' z' d s g1 g2 r2 q2 v r => q2 _ _ s⟩
def ifZ (t : Sto → Rho → EZ Bool) (b b' : Sto → Rho → RZ) (z : Sto) (ρ : Rho) : RZ := toRZ (t z ρ) ρ fun z k => match k with
  | true => b z ρ
  | false => b' z ρ
theorem z_if {tx : Expr} {as bs : List Stmt} (ht : PT X tx (ofZT X.K c W t)) (ha : PSs X as (ofZS X.K c W b)) (hb : PSs X bs (ofZS X.K c W b')) : PS X (.If tx as bs pos) (ofZS X.K c W (ifZ t b b')) := PS.imp (ps_if ht ha hb) fun D σ H ⟨cm0, F0, z, ρ, hc, ⟨cm, F, g, rel⟩, q⟩ => by
  have ez := g.z
  subst ez
  refine ⟨cm, F, ρ, g.c.trans hc, rel, post_e g rel q fun cm' F' H' z' k s g1 g2 r2 q2 => ?_⟩
  cases k with
  | true => exact iteT ⟨cm0, F0, z', ρ, hc, s, q2⟩
  | false => exact iteF ⟨cm0, F0, z', ρ, hc, s, q2⟩
def nilSZ (z : Sto) (ρ : Rho) : RZ := .nx z ρ
def seqZ (b b' : Sto → Rho → RZ) (z : Sto) (ρ : Rho) : RZ := match b z ρ with
  | .nx z' ρ' => b' z' ρ'
  | r => r
theorem z_nil : PSs X [] (ofZS X.K c W nilSZ) := PSs.imp pss_nil fun D σ H ⟨cm0, F0, z, ρ, hc, s, q⟩ => q σ H s
theorem z_cons (h1 : PS X st (ofZS X.K c W b)) (h2 : PSs X sts (ofZS X.K c W b')) : PSs X (st :: sts) (ofZS X.K c W (seqZ b b')) := PSs.imp (pss_cons h1 h2) fun D σ H ⟨cm0, F0, z, ρ, hc, s, q⟩ => ⟨cm0, F0, z, ρ, hc, s, by
  unfold seqZ at q
  cases hb : b z ρ with
  | nx z' ρ' =>
    rw [hb] at q
    exact fun σ' H' s' => ⟨cm0, F0, z', ρ', hc, s', q⟩
  | ret z' d => rw [hb] at q; exact q
  | brk z' ρ' => rw [hb] at q; exact q
  | cont z' ρ' => rw [hb] at q; exact q
  | exc z' ρ' n => rw [hb] at q; exact q
  | bad => rw [hb] at q; exact q⟩
theorem z_one (h1 : PS X st (ofZS X.K c W b)) : PSs X [st] (ofZS X.K c W b) := pss_one h1
def brkSZ (z : Sto) (ρ : Rho) : RZ := .brk z ρ
def contSZ (z : Sto) (ρ : Rho) : RZ := .cont z ρ
theorem z_pass : PS X (.Pass pos) (ofZS X.K c W nilSZ) := PS.imp ps_pass fun D σ H ⟨cm0, F0, z, ρ, hc, s, q⟩ => q σ H s
theorem z_break : PS X (.Break pos) (ofZS X.K c W brkSZ) := PS.imp ps_break fun D σ H ⟨cm0, F0, z, ρ, hc, s, q⟩ => q σ H s
theorem z_continue : PS X (.Continue pos) (ofZS X.K c W contSZ) := PS.imp ps_continue fun D σ H ⟨cm0, F0, z, ρ, hc, s, q⟩ => q σ H s
def badSZ (z : Sto) (ρ : Rho) : RZ := .bad
theorem z_bad : PS X st (ofZS X.K c W badSZ) := ⟨fun pins s σ H D I ⟨cm0, F0, z, ρ, hc, s', q⟩ => q.elim⟩
/-! ### pure statements -/
def allF (ρ : Rho) : Bool := ρ.all fun
  | some (.fro _) => true
  | none => true
  | _ => false
theorem Rel.toZ {K : PySem.W.Frag} {cm : CM} {F H : Hp} {σ : L2.St} {ρ : Rho} {As : Nat → List Addr} (r : Rel K cm F H σ ρ As) (h : allF ρ = true) : RelZ K cm F H σ ρ where
  len := r.len
  fh := r.fh
  at_ := fun i sv e => by
    obtain ⟨v, h1, h2⟩ := r.at_ i sv e
    have z := List.all_eq_true.mp h _ (List.mem_of_getElem? e)
    cases sv with
    | fro d => exact ⟨v, h1, .fro h2.fro_inv⟩
    | _ => cases z
  nd := fun _ => .nil
  sep := fun _ _ _ a h => by simp at h
  own := fun _ a h => by simp at h
  cel := r.cel
  out := fun _ a h => by simp at h
def lifS (b : Sto → Rho → Res) (z : Sto) (ρ : Rho) : RZ := match b z ρ with
  | .nx ρ' => if allF ρ' = true then .nx z ρ' else .bad
  | .brk ρ' => if allF ρ' = true then .brk z ρ' else .bad
  | .cont ρ' => if allF ρ' = true then .cont z ρ' else .bad
  | .ret (.fro d) => .ret z d
  | _ => .bad
theorem zs (b : Sto → Rho → Res) (h : ∀ t z, PS X st (ofS X.K ⟨c, t, z⟩ W (b z))) : PS X st (ofZS X.K c W (lifS b)) := ⟨fun pins s σ H D I ⟨cm0, F0, z, ρ, hc, ⟨cm, F, g, rel⟩, q⟩ => by
  have ez := g.z
  subst ez
  have hcm : (⟨c, cm.t, cm.z⟩ : CM) = cm := by rw [← hc, ← g.c]
  have h1 := h cm.t cm.z
  rw [hcm] at h1
  refine h1.run pins s σ H D I ⟨F, H, ρ, ⟨F, _, rel, Ext.refl rel.fh, fun _ a h => by simp at h⟩, ?_⟩
  have up : ∀ {ρ' σ' H'}, allF ρ' = true → Sta X.K cm F H ρ' σ' H' → StaZ X.K cm0 F0 cm.z ρ' σ' H' := fun ha ⟨F1, As, rel1, x1, n1⟩ => ⟨cm, F1, g.trans (Grow.ofExt x1 rel.cel), rel1.toZ ha⟩
  unfold lifS at q
  cases hb : b cm.z ρ with
  | nx ρ' =>
    rw [hb] at q
    by_cases ha : allF ρ' = true
    · simp only [ha, ↓reduceIte] at q
      exact fun σ' H' s' => q σ' H' (up ha s')
    · simp only [if_neg ha] at q
      exact q.elim
  | brk ρ' =>
    rw [hb] at q
    by_cases ha : allF ρ' = true
    · simp only [ha, ↓reduceIte] at q
      exact fun σ' H' s' => q σ' H' (up ha s')
    · simp only [if_neg ha] at q
      exact q.elim
  | cont ρ' =>
    rw [hb] at q
    by_cases ha : allF ρ' = true
    · simp only [ha, ↓reduceIte] at q
      exact fun σ' H' s' => q σ' H' (up ha s')
    · simp only [if_neg ha] at q
      exact q.elim
  | ret sv =>
    rw [hb] at q
    cases sv with
    | fro d => exact fun v F' H' A x r nd nA => q v cm F' H' (g.trans (Grow.ofExt x rel.cel)) r.fro_inv
    | _ => exact q.elim
  | exc n fs xs => rw [hb] at q; exact q.elim
  | bad => rw [hb] at q; exact q.elim⟩
/-! ### what is walked -/
def ofZI (K : PySem.W.Frag) (c : Str → Addr) (W : L2.WX) (f : Sto → Rho → EZ (List Dat)) : TI := fun σ H Rr => ∃ cm F ρ, cm.c = c ∧ RelZ K cm F H σ ρ ∧ PoE K (fun cm' F' H' ds => ∀ J, ItfS K cm' J F' ds → Rr J H') (fun _ _ H' n => W (.ref (c n)) none σ H') cm F (f cm.z ρ)
theorem zi {tg it : Expr} (f : Sto → Rho → Option (List Dat)) (h : ∀ t z, PI X tg it (ofIS X.K ⟨c, t, z⟩ (f z))) : PI X tg it (ofZI X.K c W (lif f)) := ⟨fun pins s σ H Q I ⟨cm, F, ρ, hc, rel, q⟩ => by
  subst hc
  unfold lif at q
  cases hf : f cm.z ρ with
  | none => rw [hf] at q; exact q.elim
  | some d =>
    rw [hf] at q
    exact (h cm.t cm.z).run pins s σ H Q I ⟨F, ρ, _, d, rel, hf, fun F' H' J x hJ => q cm F' H' (Grow.ofExt x rel.cel) J hJ⟩⟩
def lstI (f : Sto → Rho → EZ Dat) (z : Sto) (ρ : Rho) : EZ (List Dat) := (f z ρ).bind fun z1 d => match d with
  | .lst xs => .ok z1 xs
  | .scr xs => .ok z1 xs
  | _ => .bad
theorem zi_list {tg a : Expr} (ha : PE X a (ofZE X.K c W f)) : PI X tg a (ofZI X.K c W (lstI f)) := PI.imp (pi_list ha) fun σ H Q ⟨cm, F, ρ, hc, rel, q⟩ =>
  ⟨cm, F, ρ, hc, rel, PoE.mono (PoE.bind q) (fun cm1 F1 H1 d z1 g1 q1 v r => by
    cases d with
    | lst xs =>
      obtain ⟨p, vs, rfl, h, rs⟩ := r.lst_inv
      exact ⟨p, rfl, ⟨vs, .inl (same_rd g1.fh h)⟩, q1 cm1 F1 H1 (Grow.refl g1.fh g1.cel) _ (itf_list (.inl h) rs)⟩
    | scr xs =>
      obtain ⟨p, vs, rfl, h, rs⟩ := r.scr_inv
      exact ⟨p, rfl, ⟨vs, g1.fh.seq h⟩, q1 cm1 F1 H1 (Grow.refl g1.fh g1.cel) _ (itf_list h rs)⟩
    | _ => exact q1.elim) fun _ _ _ _ _ _ h => h⟩
def forGoZ (h : Dat → Rho → Option Rho) (b : Sto → Rho → RZ) : List Dat → Sto → Rho → RZ
  | [], z, ρ => .nx z ρ
  | d :: ds, z, ρ => match h d ρ with
    | none => .bad
    | some ρ1 => match b z ρ1 with
      | .nx z' ρ' => forGoZ h b ds z' ρ'
      | .cont z' ρ' => forGoZ h b ds z' ρ'
      | .brk z' ρ' => .nx z' ρ'
      | r => r
def forZ (it : Sto → Rho → EZ (List Dat)) (h : Dat → Rho → Option Rho) (b : Sto → Rho → RZ) (z : Sto) (ρ : Rho) : RZ := toRZ (it z ρ) ρ fun z ds => forGoZ h b ds z ρ
theorem z_for {tg iter : Expr} {body : List Stmt} {it : Sto → Rho → EZ (List Dat)} {h : Dat → Rho → Option Rho} {is : List Nat} (hp : PassesOwn (model X.prog X.w) X.A X.env X.xe) (hc : X.calm = true) (hi : PI X tg iter (ofZI X.K c W it)) (hg : ∀ t z, PG X tg (ofG X.K ⟨c, t, z⟩ h is)) (hb : PSs X body (ofZS X.K c W b))
    (hs : ∀ x, foldedSetIterable iter X.env x = pure x := by intro _; rfl) : PS X (.For tg iter body [] pos) (ofZS X.K c W (forZ it h b)) := by
  have hG : PG X tg (fun v σ H Q => ∃ t z, ofG X.K ⟨c, t, z⟩ h is v σ H Q) := ⟨fun pins s σ H v u Q I r ⟨t, z, q⟩ => (hg t z).run pins s σ H v u Q I r q⟩
  refine PS.imp (ps_for hp hc hi hG hb hs) fun D σ H ⟨cm0, F0, z, ρ, hcc, ⟨cm, F, g, rel⟩, q⟩ => ?_
  have ez := g.z
  subst ez
  refine ⟨cm, F, ρ, g.c.trans hcc, rel, post_e g rel q fun cm1 F1 H1 z1 ds s1 g1 g01 rel1 q1 J hJ => ?_⟩
  refine ⟨fun i m σ2 H2 => m = ds.length - i ∧ i ≤ ds.length ∧ ∃ z2 ρ2 cm2 F2, RelZ X.K cm2 F2 H2 σ2 ρ2 ∧ Grow X.K cm1 F1 cm2 F2 H2 z2 ∧ PostZ X.K c W cm0 F0 D (forGoZ h b (ds.drop i) z2 ρ2),
    ⟨ds.length, by simp, Nat.zero_le _, z1, ρ, cm1, F1, rel1, by
      have := g01.z
      subst this
      exact Grow.refl rel1.fh rel1.cel, q1⟩, ?_⟩
  rintro i m σ2 H2 ⟨rfl, hi, z2, ρ2, cm2, F2, rel2, g2, q2⟩
  by_cases hlt : i < ds.length
  · refine .inr ⟨hJ.go i F2 H2 g2.f rel2.fh hlt, fun σ' H' => ∃ z3 ρ3 cm3 F3, RelZ X.K cm3 F3 H' σ' ρ3 ∧ Grow X.K cm1 F1 cm3 F3 H' z3 ∧ PostZ X.K c W cm0 F0 D (forGoZ h b (ds.drop (i + 1)) z3 ρ3), fun σ' H' z => ⟨ds.length - (i + 1), by omega, rfl, hlt, z⟩, fun v H' hy => ?_⟩
    obtain ⟨F3, d, x3, ed, rd⟩ := hJ.yld i F2 H2 v H' g2.f rel2.fh hlt hy
    have edd : ds[i] = d := by rw [List.getElem?_eq_getElem hlt] at ed; exact Option.some.inj ed
    rw [List.drop_eq_getElem_cons hlt, edd, forGoZ] at q2
    split at q2
    · exact q2.elim
    rename_i ρ3 e3
    have g3 : Grow X.K cm1 F1 cm2 F3 H' cm2.z := by
      have := g2.z
      subst this
      exact g2.trans (Grow.ofExt x3 rel2.cel)
    have ecc : cm2.c = c := g2.c.trans (g01.c.trans hcc)
    have hcm2 : (⟨c, cm2.t, cm2.z⟩ : CM) = cm2 := by rw [← ecc]
    refine ⟨cm2.t, cm2.z, ?_⟩
    rw [hcm2]
    refine ⟨F3, ρ2, _, d, ρ3, rel2.ext x3, rd.cmono (Same.refl _) g2.c g2.t, e3, fun σ4 As4 rel4 s4 _ _ => ?_⟩
    have rel5 : RelZ X.K cm2 F3 H' σ4 ρ3 := ⟨rel4.len, rel4.fh, fun i sv e => by
      obtain ⟨v, h1, h2⟩ := rel4.at_ i sv e
      have nA : As4 i = [] := List.eq_nil_iff_forall_not_mem.mpr fun a ha => by simpa using s4 i a ha
      rw [nA] at h2
      exact ⟨v, h1, h2⟩, fun _ => .nil, fun _ _ _ a h => by simp at h, fun _ a h => by simp at h, rel4.cel, fun _ a h => by simp at h⟩
    have ez2 := g2.z
    subst ez2
    refine ⟨cm2, F3, cm2.z, ρ3, ecc, ⟨cm2, F3, Grow.refl rel5.fh rel5.cel, rel5⟩, ?_⟩
    have up : ∀ {z' ρ' σ' H''}, StaZ X.K cm2 F3 z' ρ' σ' H'' → ∃ cm5 F5, RelZ X.K cm5 F5 H'' σ' ρ' ∧ Grow X.K cm1 F1 cm5 F5 H'' z' := fun {z' ρ' σ' H''} ⟨cm5, F5, g5, r5⟩ => ⟨cm5, F5, r5, g3.trans g5⟩
    cases hr : b cm2.z ρ3 with
    | nx z' ρ' =>
      rw [hr] at q2
      exact fun σ' H'' s => by
        obtain ⟨cm5, F5, r5, g5⟩ := up s
        exact ⟨z', ρ', cm5, F5, r5, g5, q2⟩
    | cont z' ρ' =>
      rw [hr] at q2
      exact fun σ' H'' s => by
        obtain ⟨cm5, F5, r5, g5⟩ := up s
        exact ⟨z', ρ', cm5, F5, r5, g5, q2⟩
    | brk z' ρ' =>
      rw [hr] at q2
      exact fun σ' H'' s => by
        obtain ⟨cm5, F5, r5, g5⟩ := up s
        exact q2 σ' H'' ⟨cm5, F5, g01.trans g5, r5⟩
    | ret z' d =>
      rw [hr] at q2
      exact fun v cm' F' H'' g5 r => q2 v cm' F' H'' (g01.trans (g3.trans g5)) r
    | exc z' ρ' nm =>
      rw [hr] at q2
      exact fun σ' H'' s => by
        obtain ⟨cm5, F5, r5, g5⟩ := up s
        exact q2 σ' H'' ⟨cm5, F5, g01.trans g5, r5⟩
    | bad =>
      rw [hr] at q2
      exact q2.elim
  · have ei : i = ds.length := by omega
    subst ei
    rw [List.drop_length, forGoZ] at q2
    exact .inl ⟨hJ.stop _ F2 H2 g2.f rel2.fh (Nat.le_refl _), q2 σ2 H2 ⟨cm2, F2, g01.trans g2, rel2⟩⟩
def whileZ (t : Sto → Rho → EZ Bool) (b : Sto → Rho → RZ) : Nat → Sto → Rho → RZ
  | 0, _, _ => .bad
  | n + 1, z, ρ => toRZ (t z ρ) ρ fun z k => match k with
    | false => .nx z ρ
    | true => match b z ρ with
      | .nx z' ρ' => whileZ t b n z' ρ'
      | .cont z' ρ' => whileZ t b n z' ρ'
      | .brk z' ρ' => .nx z' ρ'
      | r => r
theorem z_while (N : Nat) {tx : Expr} {body : List Stmt} (hp : PassesOwn (model X.prog X.w) X.A X.env X.xe) (ht : PT X tx (ofZT X.K c W t)) (hb : PSs X body (ofZS X.K c W b)) : PS X (.While tx body [] pos) (ofZS X.K c W (whileZ t b N)) := PS.imp (ps_while hp ht hb) fun D σ H ⟨cm0, F0, z, ρ, hc, s, q⟩ => by
  refine ⟨fun m σ2 H2 => ∃ z2 ρ2, StaZ X.K cm0 F0 z2 ρ2 σ2 H2 ∧ PostZ X.K c W cm0 F0 D (whileZ t b m z2 ρ2), ⟨N, z, ρ, s, q⟩, ?_⟩
  rintro m σ2 H2 ⟨z2, ρ2, ⟨cm, F, g, rel⟩, q2⟩
  have ez := g.z
  subst ez
  cases m with
  | zero => exact q2.elim
  | succ m =>
    rw [whileZ] at q2
    refine ⟨cm, F, ρ2, g.c.trans hc, rel, post_e g rel q2 fun cm1 F1 H1 z1 k s1 g1 g01 rel1 q1 => ?_⟩
    cases k with
    | false => exact q1 _ _ s1
    | true =>
      refine ⟨fun σ' H' => ∃ z3 ρ3, StaZ X.K cm0 F0 z3 ρ3 σ' H' ∧ PostZ X.K c W cm0 F0 D (whileZ t b m z3 ρ3), fun σ' H' z => ⟨m, Nat.lt_succ_self m, z⟩, cm0, F0, z1, ρ2, hc, s1, ?_⟩
      have q3 : PostZ X.K c W cm0 F0 D (match b z1 ρ2 with
        | .nx z' ρ' => whileZ t b m z' ρ'
        | .cont z' ρ' => whileZ t b m z' ρ'
        | .brk z' ρ' => .nx z' ρ'
        | r => r) := q1
      cases hr : b z1 ρ2 with
      | nx z' ρ' => rw [hr] at q3; exact fun σ' H'' s => ⟨z', ρ', s, q3⟩
      | cont z' ρ' => rw [hr] at q3; exact fun σ' H'' s => ⟨z', ρ', s, q3⟩
      | brk z' ρ' => rw [hr] at q3; exact fun σ' H'' s => q3 σ' H'' s
      | ret z' d => rw [hr] at q3; exact q3
      | exc z' ρ' nm => rw [hr] at q3; exact q3
      | bad => rw [hr] at q3; exact q3
end
end
end Pq

namespace Pq
open PySem PySem.Spec PyProof.Rows L2
noncomputable section
/-! ### what a value is now, whole -/
mutual
def snD (g : Nat → Option Dat) : Dat → Option Dat
  | .non => some .non | .bl b => some (.bl b) | .int i => some (.int i) | .str x => some (.str x)
  | .tup xs => (snDs g xs).map Dat.tup
  | .lst xs => (snDs g xs).map Dat.lst
  | .dct ks xs => (snDs g xs).map (Dat.dct ks)
  | .obj c fs xs => (snDs g xs).map (Dat.obj c fs)
  | .scr xs => (snDs g xs).map Dat.scr
  | .cel k => g k
def snDs (g : Nat → Option Dat) : List Dat → Option (List Dat)
  | [] => some []
  | x :: xs => (snD g x).bind fun y => (snDs g xs).bind fun ys => some (y :: ys)
end
def snK (g : Nat → Option Dat) : Cel → Option Dat
  | .lst xs => (snDs g xs).map Dat.lst
  | .dct ks xs => (snDs g xs).map (Dat.dct ks)
  | .obj c fs xs => (snDs g xs).map (Dat.obj c fs)
  | .err _ => none
  | .gone => none
def snN : Nat → Sto → Nat → Option Dat
  | 0, _, _ => none
  | n + 1, z, k => (z[k]?).bind (snK (snN n z))
def sn (z : Sto) (d : Dat) : Option Dat := snD (snN 8 z) d
def sns (z : Sto) (ds : List Dat) : Option (List Dat) := snDs (snN 8 z) ds
/-! without cells -/
mutual
def ncl : Dat → Bool
  | .non => true | .bl _ => true | .int _ => true | .str _ => true
  | .tup xs => ncls xs | .lst xs => ncls xs | .dct _ xs => ncls xs | .obj _ _ xs => ncls xs | .scr xs => ncls xs
  | .cel _ => false
def ncls : List Dat → Bool
  | [] => true
  | x :: xs => ncl x && ncls xs
end
mutual
theorem snD_ncl (g : Nat → Option Dat) : ∀ d : Dat, ncl d = true → snD g d = some d
  | .non, _ => rfl | .bl _, _ => rfl | .int _, _ => rfl | .str _, _ => rfl
  | .tup xs, h => by rw [snD, snDs_ncl g xs (by rw [ncl] at h; exact h)]; rfl
  | .lst xs, h => by rw [snD, snDs_ncl g xs (by rw [ncl] at h; exact h)]; rfl
  | .dct ks xs, h => by rw [snD, snDs_ncl g xs (by rw [ncl] at h; exact h)]; rfl
  | .obj c fs xs, h => by rw [snD, snDs_ncl g xs (by rw [ncl] at h; exact h)]; rfl
  | .scr xs, h => by rw [snD, snDs_ncl g xs (by rw [ncl] at h; exact h)]; rfl
  | .cel _, h => by rw [ncl] at h; cases h
theorem snDs_ncl (g : Nat → Option Dat) : ∀ xs : List Dat, ncls xs = true → snDs g xs = some xs
  | [], _ => rfl
  | x :: xs, h => by
    rw [ncls, Bool.and_eq_true] at h
    rw [snDs, snD_ncl g x h.1, snDs_ncl g xs h.2]
    rfl
end
theorem ncls_all : ∀ xs : List Dat, (∀ x ∈ xs, ncl x = true) → ncls xs = true
  | [], _ => rfl
  | x :: xs, h => by rw [ncls, h x List.mem_cons_self, ncls_all xs fun y hy => h y (List.mem_cons_of_mem _ hy)]; rfl
abbrev CM.pl (cm : CM) : CM := ⟨cm.c, fun _ => none, []⟩
section
variable {K : PySem.W.Frag} {cm : CM} {F F' H H' : Hp} {A : List Addr}
mutual
theorem R.snap {g : Nat → Option Dat} (e : Same F F') (hg : ∀ k a d', cm.t k = some a → g k = some d' → R K cm.pl F' (.ref a) d') : ∀ {v : V} {d d' : Dat}, R K cm F v d → snD g d = some d' → R K cm.pl F' v d'
  | _, _, _, .non, h => by cases h; exact .non
  | _, _, _, .bl b, h => by cases h; exact .bl b
  | _, _, _, .int i, h => by cases h; exact .int i
  | _, _, _, .str x, h => by cases h; exact .str x
  | _, _, _, .tup q r, h => by
    rw [snD, Option.map_eq_some_iff] at h
    obtain ⟨ys, h1, rfl⟩ := h
    exact .tup (same_sqT e q) (Rs.snap e hg r h1)
  | _, _, _, .lst q r, h => by
    rw [snD, Option.map_eq_some_iff] at h
    obtain ⟨ys, h1, rfl⟩ := h
    exact .lst (same_rd e q) (Rs.snap e hg r h1)
  | _, _, _, .dct q k r, h => by
    rw [snD, Option.map_eq_some_iff] at h
    obtain ⟨ys, h1, rfl⟩ := h
    exact .dct (same_rd e q) k (Rs.snap e hg r h1)
  | _, _, _, @R.obj _ _ _ a dx c fvs fs xs q k r, h => by
    rw [snD, Option.map_eq_some_iff] at h
    obtain ⟨ys, h1, rfl⟩ := h
    exact .obj (dx := dx) (fvs := fvs) (e _ _ q) k (Rs.snap e hg r h1)
  | _, _, _, .scr q r, h => by
    rw [snD, Option.map_eq_some_iff] at h
    obtain ⟨ys, h1, rfl⟩ := h
    exact .scr (e.seq q) (Rs.snap e hg r h1)
  | _, _, _, .cel q, h => hg _ _ _ q h
theorem Rs.snap {g : Nat → Option Dat} (e : Same F F') (hg : ∀ k a d', cm.t k = some a → g k = some d' → R K cm.pl F' (.ref a) d') : ∀ {vs : List V} {ds ds' : List Dat}, Rs K cm F vs ds → snDs g ds = some ds' → Rs K cm.pl F' vs ds'
  | _, _, _, .nil, h => by cases h; exact .nil
  | _, _, _, .cons r t, h => by
    rw [snDs] at h
    obtain ⟨y, h1, h⟩ := bind_some h
    obtain ⟨ys, h2, h⟩ := bind_some h
    cases h
    exact .cons (R.snap e hg r h1) (Rs.snap e hg t h2)
end
/-- where the cells stand -/
def isGone : Cel → Bool
  | .gone => true
  | _ => false
def cels (cm : CM) : List Addr := (List.range cm.z.length).filterMap fun k => match cm.z[k]? with
  | some c => if isGone c = true then none else cm.t k
  | none => none
theorem cels_in (cl : Cells K cm F H) {k : Nat} {a : Addr} {c : Cel} (h : cm.t k = some a) (hz : cm.z[k]? = some c) (hc : isGone c = false) : a ∈ cels cm := List.mem_filterMap.mpr ⟨k, List.mem_range.mpr (cl.dom k a h), by simp only [hz, hc]; exact h⟩
theorem cels_is {a : Addr} (h : a ∈ cels cm) : ∃ k c, cm.t k = some a ∧ cm.z[k]? = some c ∧ c ≠ .gone := by
  obtain ⟨k, _, h⟩ := List.mem_filterMap.mp h
  cases hz : cm.z[k]? with
  | none => simp only [hz] at h; cases h
  | some c =>
    simp only [hz] at h
    cases hg : isGone c with
    | true => simp only [hg, ↓reduceIte] at h; cases h
    | false =>
      simp only [hg] at h
      exact ⟨k, c, h, hz, fun z => by rw [z] at hg; cases hg⟩
theorem cels_no (cl : Cells K cm F H) : ∀ a ∈ cels cm, F a = none := fun a h => by
  obtain ⟨k, c, h, hz, hc⟩ := cels_is h
  exact (cl.get h hz hc).1
theorem snN_is (cl : Cells K cm F H) : ∀ (n : Nat) (k : Nat) (a : Addr) (d' : Dat), cm.t k = some a → snN n cm.z k = some d' → R K cm.pl (plus F H (cels cm)) (.ref a) d'
  | 0, _, _, _, _, h => by cases h
  | n + 1, k, a, d', ht, h => by
    obtain ⟨ce, hz, h⟩ := bind_some (show (cm.z[k]?).bind (snK (snN n cm.z)) = some d' from h)
    have e : Same F (plus F H (cels cm)) := plus_same (cels_no cl)
    cases ce with
    | gone => cases h
    | err _ => cases h
    | lst xs =>
      have hin : plus F H (cels cm) a = H a := plus_in (cels_in cl ht hz rfl)
      obtain ⟨hF, hc⟩ := cl.get ht hz
      obtain ⟨ys, h1, rfl⟩ := Option.map_eq_some_iff.mp h
      obtain ⟨vs, h2, r⟩ := hc.lst_inv
      exact .lst (.inl (hin.trans h2)) (r.snap e (fun k a d' => snN_is cl n k a d') h1)
    | dct ks xs =>
      have hin : plus F H (cels cm) a = H a := plus_in (cels_in cl ht hz rfl)
      obtain ⟨hF, hc⟩ := cl.get ht hz
      obtain ⟨ys, h1, rfl⟩ := Option.map_eq_some_iff.mp h
      obtain ⟨kvs, h2, h3, r⟩ := hc.dct_inv
      exact .dct (.inl (hin.trans h2)) h3 (r.snap e (fun k a d' => snN_is cl n k a d') h1)
    | obj c fs xs =>
      have hin : plus F H (cels cm) a = H a := plus_in (cels_in cl ht hz rfl)
      obtain ⟨hF, hc⟩ := cl.get ht hz
      obtain ⟨ys, h1, rfl⟩ := Option.map_eq_some_iff.mp h
      obtain ⟨dx, fvs, h2, h3, r⟩ := hc.obj_inv
      exact .obj (dx := dx) (fvs := fvs) (hin.trans h2) h3 (r.snap e (fun k a d' => snN_is cl n k a d') h1)
theorem Rs.snap' (cl : Cells K cm F H) {vs : List V} {ds ds' : List Dat} (r : Rs K cm F vs ds) (h : sns cm.z ds = some ds') : Rs K cm.pl (plus F H (cels cm)) vs ds' := r.snap (plus_same (cels_no cl)) (fun k a d' => snN_is cl 8 k a d') h
theorem R.snap' (cl : Cells K cm F H) {v : V} {d d' : Dat} (r : R K cm F v d) (h : sn cm.z d = some d') : R K cm.pl (plus F H (cels cm)) v d' := r.snap (plus_same (cels_no cl)) (fun k a d' => snN_is cl 8 k a d') h
def snR (z : Sto) (ρ : Rho) : Rho := ρ.map fun
  | some (.fro d) => (sn z d).map SV.fro
  | _ => none
theorem RelZ.snap {σ : L2.St} {ρ : Rho} (r : RelZ K cm F H σ ρ) : RelZ K cm.pl (plus F H (cels cm)) H σ (snR cm.z ρ) where
  len := by unfold snR; rw [List.length_map]; exact r.len
  fh := plus_le r.fh
  at_ := fun i sv h => by
    unfold snR at h
    rw [List.getElem?_map, Option.map_eq_some_iff] at h
    obtain ⟨o, h1, h2⟩ := h
    match o, h2 with
    | some (.fro d), h2 =>
      obtain ⟨d', h3, rfl⟩ := Option.map_eq_some_iff.mp h2
      obtain ⟨v, h4, h5⟩ := r.at_ i _ h1
      exact ⟨v, h4, .fro (h5.fro_inv.snap' r.cel h3)⟩
  nd := fun _ => .nil
  sep := fun _ _ _ a h => by simp at h
  own := fun _ a h => by simp at h
  cel := Cells.zero
  out := fun _ a h => by simp at h
/-! ### and back: what is flat -/
mutual
def tfl : Dat → Bool
  | .non => true | .bl _ => true | .int _ => true | .str _ => true
  | .tup xs => tfls xs
  | _ => false
def tfls : List Dat → Bool
  | [] => true
  | x :: xs => tfl x && tfls xs
end
/-- F without the cells -/
def minus (F : Hp) (A : List Addr) : Hp := fun b => if b ∈ A then none else F b
theorem minus_in {a : Addr} (h : a ∈ A) : minus F A a = none := by unfold minus; rw [if_pos h]
theorem minus_out {a : Addr} (h : a ∉ A) : minus F A a = F a := by unfold minus; rw [if_neg h]
mutual
theorem R.flat {F2 : Hp} {cm' : CM} (h : ∀ a vs, SqT K F' a vs → SqT K F2 a vs) : ∀ {v : V} {d : Dat}, R K cm F' v d → tfl d = true → R K cm' F2 v d
  | _, _, .non, _ => .non
  | _, _, .bl b, _ => .bl b
  | _, _, .int i, _ => .int i
  | _, _, .str x, _ => .str x
  | _, _, .tup q r, f => .tup (h _ _ q) (Rs.flat h r (by rw [tfl] at f; exact f))
  | _, _, .lst q r, f => by cases f
  | _, _, .dct q k r, f => by cases f
  | _, _, .obj q k r, f => by cases f
  | _, _, .scr q r, f => by cases f
  | _, _, .cel q, f => by cases f
theorem Rs.flat {F2 : Hp} {cm' : CM} (h : ∀ a vs, SqT K F' a vs → SqT K F2 a vs) : ∀ {vs : List V} {ds : List Dat}, Rs K cm F' vs ds → tfls ds = true → Rs K cm' F2 vs ds
  | _, _, .nil, _ => .nil
  | _, _, .cons r t, f => by
    rw [tfls, Bool.and_eq_true] at f
    exact .cons (R.flat h r f.1) (Rs.flat h t f.2)
end
/-- behind a pure reading of what the store holds -/
theorem back_sqT (cl : Cells K cm F H) (x : Same (plus F H (cels cm)) F') : ∀ a vs, SqT K F' a vs → SqT K (minus F' (cels cm)) a vs := fun a vs h => by
  have key : ∀ o, F' a = some o → (∀ xs, o ≠ .lst xs) → (∀ xs, o ≠ .dK xs) → (∀ C dx fvs, o ≠ .ins C dx fvs) → (∀ φ, o ≠ .ext φ) → a ∉ cels cm := fun o e n1 n2 n3 n4 hin => by
    obtain ⟨k, c, ht, hz, hc⟩ := cels_is hin
    obtain ⟨t2, t3⟩ := cl.get ht hz hc
    have up : ∀ u, H a = some u → o = u := fun u hu => by
      have := x a u (by rw [plus_in hin]; exact hu)
      rw [e] at this
      exact Option.some.inj this
    cases c with
    | gone => exact hc rfl
    | lst xs =>
      obtain ⟨ws, h2, _⟩ := t3.lst_inv
      exact n1 _ (up _ h2)
    | dct ks xs =>
      obtain ⟨kvs, h2, _⟩ := t3.dct_inv
      exact n2 _ (up _ h2)
    | obj c fs xs =>
      obtain ⟨dx, fvs, h2, _⟩ := t3.obj_inv
      exact n3 _ _ _ (up _ h2)
    | err c => exact n4 _ (up _ t3.err_inv)
  rcases h with (h | ⟨o, h⟩) | h
  · exact .inl (.inl (by rw [minus_out (key _ h (fun _ z => by cases z) (fun _ z => by cases z) (fun _ _ _ z => by cases z) fun _ z => by cases z)]; exact h))
  · exact .inl (.inr ⟨o, by rw [minus_out (key _ h (fun _ z => by cases z) (fun _ z => by cases z) (fun _ _ _ z => by cases z) fun _ z => by cases z)]; exact h⟩)
  · exact .inr h
theorem back_grow (e : Same F H) (cl : Cells K cm F H) (x : Ext (plus F H (cels cm)) H F' H') : Grow K cm F cm (minus F' (cels cm)) H' cm.z where
  c := rfl
  t := fun _ _ h => h
  z := rfl
  f := fun a o h => by
    have : a ∉ cels cm := fun hin => by rw [cels_no cl a hin] at h; cases h
    rw [minus_out this]
    exact x.f _ _ (by rw [plus_out this]; exact h)
  fh := fun a o h => by
    by_cases hin : a ∈ cels cm
    · rw [minus_in hin] at h; cases h
    · rw [minus_out hin] at h
      exact x.fh _ _ h
  cel := ⟨fun k c h => by
    obtain ⟨a, h1, ⟨o, ho⟩, h2⟩ := cl.at_ k c h
    refine ⟨a, h1, ⟨o, x.h _ _ ho⟩, fun hc => ?_⟩
    obtain ⟨h2, h3⟩ := h2 hc
    refine ⟨minus_in (cels_in cl h1 h (by cases c <;> first | rfl | exact (hc rfl).elim)), h3.keep (fun a o h => ?_) fun o h => x.h _ _ h⟩
    have : a ∉ cels cm := fun hin => by rw [cels_no cl a hin] at h; cases h
    rw [minus_out this]
    exact x.f _ _ (by rw [plus_out this]; exact h), cl.inj, cl.dom⟩
/-! own things with flat leaves -/
mutual
def tfv : SV → Bool
  | .fro d => tfl d
  | .ol xs => tfvs xs
  | .od _ xs => tfvs xs
  | .oo _ _ _ xs => tfvs xs
  | .tp xs => tfvs xs
def tfvs : List SV → Bool
  | [] => true
  | x :: xs => tfv x && tfvs xs
end
mutual
theorem RO.back (cl : Cells K cm F H) (x : Same (plus F H (cels cm)) F') : ∀ {v : V} {sv : SV} {A : List Addr}, RO K cm.pl F' H' v sv A → tfv sv = true → RO K cm (minus F' (cels cm)) H' v sv A
  | _, _, _, .fro r, f => .fro (r.flat (back_sqT cl x) (by rw [tfv] at f; exact f))
  | _, _, _, @RO.ol _ _ _ _ a vs xs A n h r, f => .ol (by unfold minus; split; rfl; exact n) h (ROs.back cl x r (by rw [tfv] at f; exact f))
  | _, _, _, @RO.od _ _ _ _ a kvs ks xs A n h k r, f => .od (by unfold minus; split; rfl; exact n) h k (ROs.back cl x r (by rw [tfv] at f; exact f))
  | _, _, _, @RO.oo _ _ _ _ a dx c fvs fs xs A n h k r, f => .oo (dx := dx) (fvs := fvs) (by unfold minus; split; rfl; exact n) h k (ROs.back cl x r (by rw [tfv] at f; exact f))
  | _, _, _, @RO.tp _ _ _ _ a vs xs A n h r, f => .tp (by unfold minus; split; rfl; exact n) h (ROs.back cl x r (by rw [tfv] at f; exact f))
theorem ROs.back (cl : Cells K cm F H) (x : Same (plus F H (cels cm)) F') : ∀ {vs : List V} {xs : List SV} {A : List Addr}, ROs K cm.pl F' H' vs xs A → tfvs xs = true → ROs K cm (minus F' (cels cm)) H' vs xs A
  | _, _, _, .nil, _ => .nil
  | _, _, _, .cons r t, f => by
    rw [tfvs, Bool.and_eq_true] at f
    exact .cons (RO.back cl x r f.1) (ROs.back cl x t f.2)
end
/-- settled -/
theorem settle {v : V} {sv : SV} (e : Same F H) (cl : Cells K cm F H) (r : RO K cm F H v sv A) (hA : ∀ a ∈ A, ∀ k, cm.t k ≠ some a) : Grow K cm F cm (plus F H A) H cm.z ∧ R K cm (plus F H A) v (frz sv) :=
  ⟨⟨rfl, fun _ _ h => h, rfl, plus_same fun a h => (r.own a h).1, plus_le e, cl.plus (fun a h => (r.own a h).1) hA⟩, r.frz e⟩
/-! cells of one's own -/
mutual
def alo (z : Sto) : SV → Sto × Dat
  | .fro d => (z, d)
  | .ol xs => ((alos z xs).1 ++ [.lst (alos z xs).2], .cel (alos z xs).1.length)
  | .od ks xs => ((alos z xs).1 ++ [.dct ks (alos z xs).2], .cel (alos z xs).1.length)
  | .oo _ c fs xs => ((alos z xs).1 ++ [.obj c fs (alos z xs).2], .cel (alos z xs).1.length)
  | .tp xs => ((alos z xs).1, .tup (alos z xs).2)
def alos (z : Sto) : List SV → Sto × List Dat
  | [] => (z, [])
  | x :: xs => ((alos (alo z x).1 xs).1, (alo z x).2 :: (alos (alo z x).1 xs).2)
end
structure Alo (K : PySem.W.Frag) (cm : CM) (F H : Hp) (A : List Addr) (z' : Sto) (cm' : CM) (F' : Hp) : Prop where
  g : Grow K cm F cm' F' H z'
  t : ∀ k a, cm'.t k = some a → cm.t k = some a ∨ a ∈ A
  f : ∀ a o, F' a = some o → F a = some o ∨ a ∈ A
mutual
theorem RO.cgrow {cm' : CM} {F2 : Hp} {B : List Addr} (hf : Same F F2) (hc : cm'.c = cm.c) (ht : ∀ k a, cm.t k = some a → cm'.t k = some a) (ho : ∀ a o, F2 a = some o → F a = some o ∨ a ∈ B) : ∀ {v : V} {sv : SV} {A : List Addr}, RO K cm F H v sv A → (∀ a ∈ A, a ∉ B) → RO K cm' F2 H v sv A
  | _, _, _, .fro r, _ => .fro (r.cmono hf hc ht)
  | _, _, _, @RO.ol _ _ _ _ a vs xs A n h r, q => .ol (by
      cases z : F2 a with
      | none => rfl
      | some o => rcases ho _ _ z with z | z; rw [n] at z; cases z; exact (q a List.mem_cons_self z).elim) h (ROs.cgrow hf hc ht ho r fun b hb => q b (List.mem_cons_of_mem _ hb))
  | _, _, _, @RO.od _ _ _ _ a kvs ks xs A n h k r, q => .od (by
      cases z : F2 a with
      | none => rfl
      | some o => rcases ho _ _ z with z | z; rw [n] at z; cases z; exact (q a List.mem_cons_self z).elim) h k (ROs.cgrow hf hc ht ho r fun b hb => q b (List.mem_cons_of_mem _ hb))
  | _, _, _, @RO.oo _ _ _ _ a dx c fvs fs xs A n h k r, q => .oo (dx := dx) (fvs := fvs) (by
      cases z : F2 a with
      | none => rfl
      | some o => rcases ho _ _ z with z | z; rw [n] at z; cases z; exact (q a List.mem_cons_self z).elim) (by rw [show cm' c = cm c from congrFun hc c]; exact h) k (ROs.cgrow hf hc ht ho r fun b hb => q b (List.mem_cons_of_mem _ hb))
  | _, _, _, @RO.tp _ _ _ _ a vs xs A n h r, q => .tp (by
      cases z : F2 a with
      | none => rfl
      | some o => rcases ho _ _ z with z | z; rw [n] at z; cases z; exact (q a List.mem_cons_self z).elim) h (ROs.cgrow hf hc ht ho r fun b hb => q b (List.mem_cons_of_mem _ hb))
theorem ROs.cgrow {cm' : CM} {F2 : Hp} {B : List Addr} (hf : Same F F2) (hc : cm'.c = cm.c) (ht : ∀ k a, cm.t k = some a → cm'.t k = some a) (ho : ∀ a o, F2 a = some o → F a = some o ∨ a ∈ B) : ∀ {vs : List V} {xs : List SV} {A : List Addr}, ROs K cm F H vs xs A → (∀ a ∈ A, a ∉ B) → ROs K cm' F2 H vs xs A
  | _, _, _, .nil, _ => .nil
  | _, _, _, .cons r t, q => .cons (RO.cgrow hf hc ht ho r fun a h => q a (List.mem_append_left _ h)) (ROs.cgrow hf hc ht ho t fun a h => q a (List.mem_append_right _ h))
end
theorem Alo.refl (e : Same F H) (cl : Cells K cm F H) : Alo K cm F H A cm.z cm F := ⟨Grow.refl e cl, fun _ _ h => .inl h, fun _ _ h => .inl h⟩
theorem Alo.mono {z' : Sto} {cm' : CM} {B : List Addr} (h : Alo K cm F H A z' cm' F') (s : ∀ a ∈ A, a ∈ B) : Alo K cm F H B z' cm' F' := ⟨h.g, fun k a q => (h.t k a q).imp id (s a), fun a o q => (h.f a o q).imp id (s a)⟩
theorem Alo.trans {z' z2 : Sto} {cm' cm2 : CM} {F2 : Hp} (h : Alo K cm F H A z' cm' F') (h2 : Alo K cm' F' H A z2 cm2 F2) : Alo K cm F H A z2 cm2 F2 := ⟨h.g.trans h2.g, fun k a q => (h2.t k a q).elim (h.t k a) .inr, fun a o q => (h2.f a o q).elim (h.f a o) .inr⟩
theorem Alo.cell {z' : Sto} {cm' : CM} {B : List Addr} {a : Addr} {c : Cel} (h : Alo K cm F H B z' cm' F') (na : a ∉ B) (nF : F a = none) (nc : ∀ k, cm.t k ≠ some a) (q : CelAt K cm' F' H a c) : Alo K cm F H (a :: B) (z' ++ [c]) (cm'.snoc a c) F' ∧ R K (cm'.snoc a c) F' (.ref a) (.cel z'.length) := by
  have nF' : F' a = none := by
    cases z : F' a with
    | none => rfl
    | some o =>
      rcases h.f _ _ z with z | z
      · rw [nF] at z; cases z
      · exact (na z).elim
  have nc' : ∀ k, cm'.t k ≠ some a := fun k z => (h.t k a z).elim (nc k) na
  have ez := h.g.z
  subst ez
  have g := Grow.snoc h.g.fh h.g.cel nF' nc' q
  refine ⟨⟨h.g.trans g, fun k b hk => ?_, fun b o hb => (h.f b o hb).imp id (List.mem_cons_of_mem _)⟩, .cel (by show (if cm'.z.length = cm'.z.length then some a else _) = _; rw [if_pos rfl])⟩
  have hk' : (if k = cm'.z.length then some a else cm'.t k) = some b := hk
  split at hk'
  · cases hk'
    exact .inr List.mem_cons_self
  · exact (h.t k b hk').imp id (List.mem_cons_of_mem _)
mutual
theorem RO.alo : ∀ {cm : CM} {F : Hp} {v : V} {sv : SV} {A : List Addr}, Same F H → Cells K cm F H → RO K cm F H v sv A → A.Nodup → (∀ a ∈ A, ∀ k, cm.t k ≠ some a) → ∃ cm' F', Alo K cm F H A (Pq.alo cm.z sv).1 cm' F' ∧ R K cm' F' v (Pq.alo cm.z sv).2
  | cm, F, _, _, _, e, cl, .fro r, nd, nc => ⟨cm, F, by rw [Pq.alo]; exact Alo.refl e cl, by rw [Pq.alo]; exact r⟩
  | cm, F, _, _, _, e, cl, @RO.ol _ _ _ _ a vs xs A n h r, nd, nc => by
    obtain ⟨cm', F', h1, h2⟩ := ROs.alo e cl r (List.nodup_cons.mp nd).2 fun b hb => nc b (List.mem_cons_of_mem _ hb)
    have q := h1.cell (List.nodup_cons.mp nd).1 n (nc a List.mem_cons_self) (.lst h h2)
    rw [Pq.alo]
    exact ⟨_, F', q.1, q.2⟩
  | cm, F, _, _, _, e, cl, @RO.od _ _ _ _ a kvs ks xs A n h k r, nd, nc => by
    obtain ⟨cm', F', h1, h2⟩ := ROs.alo e cl r (List.nodup_cons.mp nd).2 fun b hb => nc b (List.mem_cons_of_mem _ hb)
    have q := h1.cell (List.nodup_cons.mp nd).1 n (nc a List.mem_cons_self) (.dct h k h2)
    rw [Pq.alo]
    exact ⟨_, F', q.1, q.2⟩
  | cm, F, _, _, _, e, cl, @RO.oo _ _ _ _ a dx c fvs fs xs A n h k r, nd, nc => by
    obtain ⟨cm', F', h1, h2⟩ := ROs.alo e cl r (List.nodup_cons.mp nd).2 fun b hb => nc b (List.mem_cons_of_mem _ hb)
    have q := h1.cell (c := .obj c fs (alos cm.z xs).2) (List.nodup_cons.mp nd).1 n (nc a List.mem_cons_self) (.obj (dx := dx) (fvs := fvs) (by rw [show cm' c = cm c from congrFun h1.g.c c]; exact h) k h2)
    rw [Pq.alo]
    exact ⟨_, F', q.1, q.2⟩
  | cm, F, _, _, _, e, cl, @RO.tp _ _ _ _ a vs xs A n h r, nd, nc => by
    obtain ⟨cm', F', h1, h2⟩ := ROs.alo e cl r (List.nodup_cons.mp nd).2 fun b hb => nc b (List.mem_cons_of_mem _ hb)
    rw [Pq.alo]
    have na : a ∉ A := (List.nodup_cons.mp nd).1
    have nF' : F' a = none := by
      cases z : F' a with
      | none => rfl
      | some o =>
        rcases h1.f _ _ z with z | z
        · rw [n] at z; cases z
        · exact (na z).elim
    have nc' : ∀ k, cm'.t k ≠ some a := fun k z => (h1.t k a z).elim (nc a List.mem_cons_self k) na
    have ez := h1.g.z
    refine ⟨cm', plus F' H [a], ⟨⟨h1.g.c, h1.g.t, h1.g.z, h1.g.f.trans (plus_same fun b hb => by rw [List.mem_singleton.mp hb]; exact nF'), plus_le h1.g.fh, h1.g.cel.plus (fun b hb => by rw [List.mem_singleton.mp hb]; exact nF') fun b hb => by rw [List.mem_singleton.mp hb]; exact nc'⟩, fun k b hk => (h1.t k b hk).imp id (List.mem_cons_of_mem _), fun b o hb => ?_⟩, .tup (.inl (.inl (by rw [plus_in List.mem_cons_self]; exact h))) (h2.mono (plus_same fun b hb => by rw [List.mem_singleton.mp hb]; exact nF'))⟩
    by_cases hba : b = a
    · exact .inr (by rw [hba]; exact List.mem_cons_self)
    · rw [plus_out (by simpa using hba)] at hb
      exact (h1.f b o hb).imp id (List.mem_cons_of_mem _)
theorem ROs.alo : ∀ {cm : CM} {F : Hp} {vs : List V} {xs : List SV} {A : List Addr}, Same F H → Cells K cm F H → ROs K cm F H vs xs A → A.Nodup → (∀ a ∈ A, ∀ k, cm.t k ≠ some a) → ∃ cm' F', Alo K cm F H A (alos cm.z xs).1 cm' F' ∧ Rs K cm' F' vs (alos cm.z xs).2
  | cm, F, _, _, _, e, cl, .nil, nd, nc => ⟨cm, F, by rw [alos]; exact Alo.refl e cl, by rw [alos]; exact .nil⟩
  | cm, F, _, _, _, e, cl, @ROs.cons _ _ _ _ v vs x xs A B r t, nd, nc => by
    have nd' := List.nodup_append.mp nd
    obtain ⟨cm1, F1, h1, h2⟩ := RO.alo e cl r nd'.1 fun b hb => nc b (List.mem_append_left _ hb)
    have t1 : ROs K cm1 F1 H vs xs B := t.cgrow h1.g.f h1.g.c h1.g.t h1.f fun a hb ha => nd'.2.2 a ha a hb rfl
    obtain ⟨cm2, F2, h3, h4⟩ := ROs.alo h1.g.fh h1.g.cel t1 nd'.2.1 fun b hb k hk => (h1.t k b hk).elim (nc b (List.mem_append_right _ hb) k) fun ha => nd'.2.2 b ha b hb rfl
    rw [alos]
    rw [h1.g.z] at h3 h4
    exact ⟨cm2, F2, (h1.mono fun a h => List.mem_append_left _ h).trans (h3.mono fun a h => List.mem_append_right _ h), .cons (h3.g.r h2) h4⟩
end
end
end
end Pq

namespace Pq
open PySem PySem.Spec PyProof.Rows L2
noncomputable section
section
variable {X : Cx} {c : Str → Addr} {W : L2.WX} {e a b : Expr} {es : List Expr} {st : Stmt} {sts : List Stmt} {pos : Pos}
/-! ### readings of what the store holds -/
theorem pl_of {c : Str → Addr} {cm : CM} (h : cm.c = c) : cm.pl = ⟨c, fun _ => none, []⟩ := by rw [← h]
def snE (f : Rho → Option Dat) (z : Sto) (ρ : Rho) : EZ Dat := match f (snR z ρ) with
  | some d => if tfl d = true then .ok z d else .bad
  | none => .bad
theorem z_sn {f : Rho → Option Dat} (h : PE X e (ofE X.K ⟨c, fun _ => none, []⟩ f)) : PE X e (ofZE X.K c W (snE f)) := ⟨fun pins s σ H Q I ⟨cm, F, ρ, hc, rel, q⟩ => by
  unfold snE at q
  cases hf : f (snR cm.z ρ) with
  | none => rw [hf] at q; exact q.elim
  | some d =>
    rw [hf] at q
    by_cases ht : tfl d = true
    · simp only [ht, ↓reduceIte] at q
      have rs := rel.snap
      rw [pl_of hc] at rs
      refine h.run pins s σ H Q I ⟨_, _, _, d, rs, hf, fun v F' H' x r => ?_⟩
      exact q cm _ H' (back_grow rel.fh rel.cel x) v (r.flat (back_sqT rel.cel x.f) ht)
    · simp only [ht] at q
      exact q.elim⟩
def snT (f : Rho → Option Bool) (z : Sto) (ρ : Rho) : EZ Bool := match f (snR z ρ) with
  | some k => .ok z k
  | none => .bad
theorem z_snT {f : Rho → Option Bool} (h : PT X e (ofT X.K ⟨c, fun _ => none, []⟩ f)) : PT X e (ofZT X.K c W (snT f)) := ⟨fun pins s σ H Q I ⟨cm, F, ρ, hc, rel, q⟩ => by
  unfold snT at q
  cases hf : f (snR cm.z ρ) with
  | none => rw [hf] at q; exact q.elim
  | some d =>
    rw [hf] at q
    have rs := rel.snap
    rw [pl_of hc] at rs
    exact h.run pins s σ H Q I ⟨_, _, _, d, rs, hf, fun F' H' x => q cm _ H' (back_grow rel.fh rel.cel x)⟩⟩
/-- what is new, settled -/
def snF (f : Rho → Option SV) (z : Sto) (ρ : Rho) : EZ Dat := match f (snR z ρ) with
  | some sv => if tfv sv = true then .ok z (frz sv) else .bad
  | none => .bad
/-- .. as cells -/
def snC (f : Rho → Option SV) (z : Sto) (ρ : Rho) : EZ Dat := match f (snR z ρ) with
  | some sv => if tfv sv = true then .ok (alo z sv).1 (alo z sv).2 else .bad
  | none => .bad
theorem not_cell {K : PySem.W.Frag} {cm : CM} {F H : Hp} {A : List Addr} (cl : Cells K cm F H) (nA : ∀ a ∈ A, H a = none) : ∀ a ∈ A, ∀ k, cm.t k ≠ some a := fun a ha k hk => by
  obtain ⟨o, q⟩ := cl.own_ hk
  rw [nA a ha] at q
  cases q
theorem z_snF {f : Rho → Option SV} (h : PE X e (ofO X.K ⟨c, fun _ => none, []⟩ f)) : PE X e (ofZE X.K c W (snF f)) := ⟨fun pins s σ H Q I ⟨cm, F, ρ, hc, rel, q⟩ => by
  unfold snF at q
  cases hf : f (snR cm.z ρ) with
  | none => rw [hf] at q; exact q.elim
  | some sv =>
    rw [hf] at q
    by_cases ht : tfv sv = true
    · simp only [ht, ↓reduceIte] at q
      have rs := rel.snap
      have ep := pl_of hc
      rw [ep] at rs
      refine h.run pins s σ H Q I ⟨_, _, _, sv, rs, hf, fun v F' H' A x r nd nA => ?_⟩
      rw [← ep] at r
      have g := back_grow rel.fh rel.cel x
      have p := settle g.fh g.cel (r.back rel.cel x.f ht) (not_cell rel.cel nA)
      exact q cm _ H' (g.trans p.1) v p.2
    · simp only [ht] at q
      exact q.elim⟩
theorem z_snC {f : Rho → Option SV} (h : PE X e (ofO X.K ⟨c, fun _ => none, []⟩ f)) : PE X e (ofZE X.K c W (snC f)) := ⟨fun pins s σ H Q I ⟨cm, F, ρ, hc, rel, q⟩ => by
  unfold snC at q
  cases hf : f (snR cm.z ρ) with
  | none => rw [hf] at q; exact q.elim
  | some sv =>
    rw [hf] at q
    by_cases ht : tfv sv = true
    · simp only [ht, ↓reduceIte] at q
      have rs := rel.snap
      have ep := pl_of hc
      rw [ep] at rs
      refine h.run pins s σ H Q I ⟨_, _, _, sv, rs, hf, fun v F' H' A x r nd nA => ?_⟩
      rw [← ep] at r
      have g := back_grow rel.fh rel.cel x
      obtain ⟨cm', F2, p1, p2⟩ := (r.back rel.cel x.f ht).alo g.fh g.cel nd (not_cell rel.cel nA)
      exact q cm' F2 H' (g.trans p1.g) v p2
    · simp only [ht] at q
      exact q.elim⟩
/-- what is new, at once a cell, from settled data -/
def aloE (f : Sto → Rho → Option SV) (z : Sto) (ρ : Rho) : EZ Dat := match f z ρ with
  | some sv => .ok (alo z sv).1 (alo z sv).2
  | none => .bad
theorem z_alo (f : Sto → Rho → Option SV) (h : ∀ t z, PE X e (ofO X.K ⟨c, t, z⟩ (f z))) : PE X e (ofZE X.K c W (aloE f)) := ⟨fun pins s σ H Q I ⟨cm, F, ρ, hc, rel, q⟩ => by
  unfold aloE at q
  cases hf : f cm.z ρ with
  | none => rw [hf] at q; exact q.elim
  | some sv =>
    rw [hf] at q
    have hcm : (⟨c, cm.t, cm.z⟩ : CM) = cm := by rw [← hc]
    have h1 := h cm.t cm.z
    rw [hcm] at h1
    refine h1.run pins s σ H Q I ⟨F, ρ, _, sv, rel, hf, fun v F' H' A x r nd nA => ?_⟩
    have g := Grow.ofExt x rel.cel
    obtain ⟨cm', F2, p1, p2⟩ := r.alo g.fh g.cel nd (not_cell rel.cel nA)
    exact q cm' F2 H' (g.trans p1.g) v p2⟩
/-! ### pure defs, called with cells -/
/-- .. with settled arguments -/
def dirZ (g : List Dat → Option Out) (z : Sto) (ds : List Dat) : Option OZ := match g ds with
  | some (.ok sv) => some (.ok z (frz sv))
  | _ => none
def dirC (g : List Dat → Option Out) (z : Sto) (ds : List Dat) : Option OZ := match g ds with
  | some (.ok sv) => some (.ok (alo z sv).1 (alo z sv).2)
  | _ => none
/-- .. with what stands in the store now -/
def snpZ (g : List Dat → Option Out) (z : Sto) (ds : List Dat) : Option OZ := match (sns z ds).bind g with
  | some (.ok sv) => if tfv sv = true then some (.ok z (frz sv)) else none
  | _ => none
def snpC (g : List Dat → Option Out) (z : Sto) (ds : List Dat) : Option OZ := match (sns z ds).bind g with
  | some (.ok sv) => if tfv sv = true then some (.ok (alo z sv).1 (alo z sv).2) else none
  | _ => none
section
variable {P : Program} {w : World} {K : PySem.W.Frag} {mg : Str → Option Value} {base : Heap} {k : Nat} {fn : Addr} {fd : FuncData} {ps : List Str} {g : List Dat → Option Out}
theorem dir_at (G : ∀ t z, FnOk P w K mg base (L2.CX P w) k fn fd ps (spX K ⟨c, t, z⟩ g)) : FnOk P w K mg base (L2.CX P w) k fn fd ps (fun vs H Q E => ∃ t z, spX K ⟨c, t, z⟩ g vs H Q E) := ⟨fun vs H Q E ⟨t, z, h⟩ => (G t z).len vs H Q E h, fun A outer s H args us vs Q E hr he hb r ⟨t, z, h⟩ => (G t z).run A outer s H args us vs Q E hr he hb r h⟩
theorem cm_of {cm : CM} (h : cm.c = c) : (⟨c, cm.t, cm.z⟩ : CM) = cm := by rw [← h]
theorem ok_dir (G : ∀ t z, FnOk P w K mg base (L2.CX P w) k fn fd ps (spX K ⟨c, t, z⟩ g)) : FnOk P w K mg base (L2.CX P w) k fn fd ps (spZ K c (dirZ g)) := (dir_at G).imp fun vs H Q E ⟨cm, F, ds, o, hc, e, cl, rs, hg, q⟩ => by
  refine ⟨cm.t, cm.z, ?_⟩
  rw [cm_of hc]
  unfold dirZ at hg
  split at hg
  · rename_i sv hs
    cases hg
    exact ⟨F, ds, _, e, cl, rs, hs, fun v F' H' A x r nd nA => by
      have g := Grow.ofExt x cl
      have p := settle g.fh g.cel r (not_cell cl nA)
      exact q v cm _ H' (g.trans p.1) p.2⟩
  · cases hg
theorem ok_dirC (G : ∀ t z, FnOk P w K mg base (L2.CX P w) k fn fd ps (spX K ⟨c, t, z⟩ g)) : FnOk P w K mg base (L2.CX P w) k fn fd ps (spZ K c (dirC g)) := (dir_at G).imp fun vs H Q E ⟨cm, F, ds, o, hc, e, cl, rs, hg, q⟩ => by
  refine ⟨cm.t, cm.z, ?_⟩
  rw [cm_of hc]
  unfold dirC at hg
  split at hg
  · rename_i sv hs
    cases hg
    exact ⟨F, ds, _, e, cl, rs, hs, fun v F' H' A x r nd nA => by
      have g := Grow.ofExt x cl
      obtain ⟨cm', F2, p1, p2⟩ := r.alo g.fh g.cel nd (not_cell cl nA)
      exact q v cm' F2 H' (g.trans p1.g) p2⟩
  · cases hg
theorem ok_snp (G : FnOk P w K mg base (L2.CX P w) k fn fd ps (spX K ⟨c, fun _ => none, []⟩ g)) : FnOk P w K mg base (L2.CX P w) k fn fd ps (spZ K c (snpZ g)) := G.imp fun vs H Q E ⟨cm, F, ds, o, hc, e, cl, rs, hg, q⟩ => by
  unfold snpZ at hg
  have ep := pl_of hc
  rw [← ep]
  split at hg
  · rename_i sv hs
    obtain ⟨ds', h1, h2⟩ := bind_some hs
    by_cases ht : tfv sv = true
    · simp only [ht, ↓reduceIte] at hg
      cases hg
      refine ⟨plus F H (cels cm), ds', _, plus_le e, Cells.zero, rs.snap' cl h1, h2, fun v F' H' A x r nd nA => ?_⟩
      have g := back_grow e cl x
      have p := settle g.fh g.cel (r.back cl x.f ht) (not_cell cl nA)
      exact q v cm _ H' (g.trans p.1) p.2
    · simp only [ht] at hg
      cases hg
  · cases hg
theorem ok_snpC (G : FnOk P w K mg base (L2.CX P w) k fn fd ps (spX K ⟨c, fun _ => none, []⟩ g)) : FnOk P w K mg base (L2.CX P w) k fn fd ps (spZ K c (snpC g)) := G.imp fun vs H Q E ⟨cm, F, ds, o, hc, e, cl, rs, hg, q⟩ => by
  unfold snpC at hg
  have ep := pl_of hc
  rw [← ep]
  split at hg
  · rename_i sv hs
    obtain ⟨ds', h1, h2⟩ := bind_some hs
    by_cases ht : tfv sv = true
    · simp only [ht, ↓reduceIte] at hg
      cases hg
      refine ⟨plus F H (cels cm), ds', _, plus_le e, Cells.zero, rs.snap' cl h1, h2, fun v F' H' A x r nd nA => ?_⟩
      have g := back_grow e cl x
      obtain ⟨cm', F2, p1, p2⟩ := (r.back cl x.f ht).alo g.fh g.cel nd (not_cell cl nA)
      exact q v cm' F2 H' (g.trans p1.g) p2
    · simp only [ht] at hg
      cases hg
  · cases hg
/-! ### a def -/
def fnZ (n m : Nat) (b : Sto → Rho → RZ) (z : Sto) (ds : List Dat) : Option OZ := if ds.length = m then match b z (startR n ds) with
    | .ret z d => some (.ok z d)
    | .nx z _ => some (.ok z .non)
    | .exc z _ n => some (.exc z n)
    | _ => none
  else none
theorem fn_z {x qual : Str} {st : Stmt} {f : Addr} {fd : FuncData} {N ps : List Str} {k : Nat} {g : Sto → List Dat → Option OZ} {b : Sto → Rho → RZ} (hg : g = fnZ N.length ps.length b) (F : L2.Fun K x qual st f fd) (S : FnScope N ps (defScope st))
    (hb : ∀ (cdv : Value) (A : Around) (outer : List Env) (s : Shared) (H : Hp) (E : XK), Room k (A.deeper (envOfC qual (defScope st) s.heap.objs.size f cdv)) → Takes (cxOf (L2.CX P w) P w K mg base N qual (defScope st) f cdv A outer s H E) (fun cls d _ H => E cls d H) →
      PassesOwn (model P w) (cxOf (L2.CX P w) P w K mg base N qual (defScope st) f cdv A outer s H E).A (cxOf (L2.CX P w) P w K mg base N qual (defScope st) f cdv A outer s H E).env (cxOf (L2.CX P w) P w K mg base N qual (defScope st) f cdv A outer s H E).xe →
      PSs (cxOf (L2.CX P w) P w K mg base N qual (defScope st) f cdv A outer s H E) (defBody st) (ofZS K c (fun cls d _ H => E cls d H) b)) :
    FnOk P w K mg base (L2.CX P w) (k + 1) f fd ps (spZ K c g) := by
  subst hg
  refine F.okX S (fun vs H Q E ⟨cm, F, ds, o, hc, e, cl, rs, hg, k⟩ => ?_) fun cdv A outer s H vs Q E hr ⟨cm, F, ds, o, hc, e, cl, rs, hg, q⟩ => ?_
  · unfold fnZ at hg
    split at hg
    · rename_i c
      rw [rs.length, c]
    · cases hg
  · refine ⟨_, hb cdv A outer s H E hr (takes_of rfl rfl rfl rfl) (passes_of rfl), cm, F, cm.z, startR N.length ds, hc, ⟨cm, F, Grow.refl e cl, rel_start e cl rs⟩, ?_⟩
    unfold fnZ at hg
    split at hg
    · split at hg
      · rename_i z' d e1
        cases hg
        rw [e1]
        exact fun v cm' F' H' g r => q v cm' F' H' g r
      · rename_i z' ρ' e1
        cases hg
        rw [e1]
        rintro σ' H' ⟨cm', F', g, rel⟩
        exact q .non cm' F' H' g .non
      · rename_i z' ρ' n e1
        cases hg
        rw [e1]
        rintro σ' H' ⟨cm', F', g, rel⟩
        exact q cm' F' H' g
      · cases hg
    · cases hg
end
/-! ### raise, try -/
def excZ (n : Str) (z : Sto) (ρ : Rho) : RZ := .exc z ρ n
theorem z_raise {n : Str} (hc : X.calm = true) (tk : Takes X W) (mk : PMk X e (fun _ H Q => Q (.ref (c n)) none H)) : PS X (.Raise (some e) none pos) (ofZS X.K c W (excZ n)) := PS.imp (ps_raise hc tk mk) fun D σ H ⟨cm0, F0, z, ρ, hcc, s, q⟩ => q σ H s
def noX (r : RZ) : RZ := match r with
  | .exc _ _ _ => .bad
  | r => r
def tryZ (tbl : List (Str × Bool)) (b s : Sto → Rho → RZ) (z : Sto) (ρ : Rho) : RZ := match b z ρ with
  | .exc z' ρ' n => match tbl.lookup n with
    | some true => noX (s z' ρ')
    | some false => .exc z' ρ' n
    | none => .bad
  | r => r
theorem post_noX {K : PySem.W.Frag} {cm0 : CM} {F0 : Hp} {D : Ends} {r : RZ} {W W' : L2.WX} (h : PostZ K c W cm0 F0 D (noX r)) : PostZ K c W' cm0 F0 D r := by
  cases r with
  | exc z ρ n => exact h.elim
  | _ => exact h
theorem z_try {x : Str} {C : Value} {body suite : List Stmt} {b₀ : Stmt} {np pos' : Pos} {bd sd : Sto → Rho → RZ} (tbl : List (Str × Bool)) (hs : X.stack = X.env :: X.outer) (hf : X.env.frame = some X.env.locals) (hc : Names X x C) (tk : Takes X W) (ht : ∀ n b, tbl.lookup n = some b → PySem.W.exmOne X.K (.ref (c n)) C = some b)
    (hb : ∀ (W' : L2.WX) (pn : List (Addr × Obj)) (xe : Value → Shared → Prop), Takes (X.tr pn xe) W' → PassesOwn (model X.prog X.w) X.A X.env xe → PSs (X.tr pn xe) body (ofZS X.K c W' bd))
    (hsu : ∀ (a : Addr) (oe : Obj) (pn : List (Addr × Obj)), PSs (X.suite a ((a, oe) :: pn)) (b₀ :: suite) (ofZS X.K c (fun _ _ _ _ => False) sd)) :
    PS X (.Try body [.ExceptHandler (some (.Name x np)) none (b₀ :: suite) pos'] [] [] pos) (ofZS X.K c W (tryZ tbl bd sd)) :=
  PS.imp (ps_try_only (tb := fun W' => ofZS X.K c W' bd) (ts := fun _ _ _ => ofZS X.K c (fun _ _ _ _ => False) sd) hs hf hc tk hb (fun a oe cls d pn _ _ => hsu a oe pn)) fun D σ H ⟨cm0, F0, z, ρ, hcc, s, q⟩ => ⟨cm0, F0, z, ρ, hcc, s, by
    unfold tryZ at q
    cases hr : bd z ρ with
    | exc z' ρ' n =>
      rw [hr] at q
      intro σ' H' s'
      have q' : PostZ X.K c W cm0 F0 D (match tbl.lookup n with
        | some true => noX (sd z' ρ')
        | some false => .exc z' ρ' n
        | none => .bad) := q
      cases hl : tbl.lookup n with
      | none => rw [hl] at q'; exact q'.elim
      | some b =>
        rw [hl] at q'
        refine ⟨b, ht n b hl, fun hb a ha => ?_, fun hb => ?_⟩
        · subst hb
          exact ⟨cm0, F0, z', ρ', hcc, s', post_noX q'⟩
        · subst hb
          exact q' σ' H' s'
    | nx z' ρ' => rw [hr] at q; exact q
    | ret z' d => rw [hr] at q; exact q
    | brk z' ρ' => rw [hr] at q; exact q
    | cont z' ρ' => rw [hr] at q; exact q
    | bad => rw [hr] at q; exact q⟩
end
end
end Pq

namespace Pq
open PySem PySem.Spec PyProof.Rows L2
noncomputable section
/-! ### dicts as rows of pairs -/
def putA (al : List (Key × Dat)) (k : Key) (d : Dat) : List (Key × Dat) := if (al.any fun p => decide (p.1 = k)) = true then al.map (fun p => if p.1 = k then (p.1, d) else p) else al ++ [(k, d)]
def dropA (al : List (Key × Dat)) (k : Key) : List (Key × Dat) := al.filter fun p => decide (p.1 ≠ k)
def getA (al : List (Key × Dat)) (k : Key) : Option Dat := (al.find? fun p => decide (p.1 = k)).map (·.2)
def dctA (al : List (Key × Dat)) : Cel := .dct (al.map (·.1)) (al.map (·.2))
inductive KR (K : PySem.W.Frag) (cm : CM) (F : Hp) : List (Key × V) → List (Key × Dat) → Prop
  | nil : KR K cm F [] []
  | cons {k : Key} {v : V} {d : Dat} {kvs : List (Key × V)} {al : List (Key × Dat)} : R K cm F v d → KR K cm F kvs al → KR K cm F ((k, v) :: kvs) ((k, d) :: al)
section
variable {K : PySem.W.Frag} {cm cm' : CM} {F F' H H' : Hp}
theorem KR.of : ∀ {kvs : List (Key × V)} {xs : List Dat}, Rs K cm F (kvs.map (·.2)) xs → KR K cm F kvs ((kvs.map (·.1)).zip xs)
  | [], xs, r => .nil
  | (k, v) :: kvs, [], r => by cases r
  | (k, v) :: kvs, x :: xs, .cons r t => .cons r (KR.of t)
theorem KR.keys : ∀ {kvs : List (Key × V)} {al : List (Key × Dat)}, KR K cm F kvs al → kvs.map (·.1) = al.map (·.1)
  | _, _, .nil => rfl
  | _, _, .cons r t => by rw [List.map_cons, List.map_cons, KR.keys t]
theorem KR.vals : ∀ {kvs : List (Key × V)} {al : List (Key × Dat)}, KR K cm F kvs al → Rs K cm F (kvs.map (·.2)) (al.map (·.2))
  | _, _, .nil => .nil
  | _, _, .cons r t => .cons r (KR.vals t)
theorem KR.len : ∀ {kvs : List (Key × V)} {al : List (Key × Dat)}, KR K cm F kvs al → kvs.length = al.length
  | _, _, .nil => rfl
  | _, _, .cons r t => by rw [List.length_cons, List.length_cons, KR.len t]
theorem KR.any (k : Key) : ∀ {kvs : List (Key × V)} {al : List (Key × Dat)}, KR K cm F kvs al → (kvs.any fun kv => decide (kv.1 = k)) = al.any fun p => decide (p.1 = k)
  | _, _, .nil => rfl
  | _, _, .cons r t => by rw [List.any_cons, List.any_cons, KR.any k t]
theorem KR.set {k : Key} {v : V} {d : Dat} (r : R K cm F v d) : ∀ {kvs : List (Key × V)} {al : List (Key × Dat)}, KR K cm F kvs al → KR K cm F (kvs.map fun kv => if kv.1 = k then (kv.1, v) else kv) (al.map fun p => if p.1 = k then (p.1, d) else p)
  | _, _, .nil => .nil
  | _, _, @KR.cons _ _ _ k' v' d' kvs al r' t => by
    rw [List.map_cons, List.map_cons]
    by_cases h : k' = k
    · simp only [h, ↓reduceIte]; exact .cons r (KR.set r t)
    · simp only [h, ↓reduceIte]; exact .cons r' (KR.set r t)
theorem KR.snoc {k : Key} {v : V} {d : Dat} (r : R K cm F v d) : ∀ {kvs : List (Key × V)} {al : List (Key × Dat)}, KR K cm F kvs al → KR K cm F (kvs ++ [(k, v)]) (al ++ [(k, d)])
  | _, _, .nil => .cons r .nil
  | _, _, .cons r' t => .cons r' (KR.snoc r t)
theorem KR.put {k : Key} {v : V} {d : Dat} (r : R K cm F v d) {kvs : List (Key × V)} {al : List (Key × Dat)} (t : KR K cm F kvs al) : KR K cm F (putK kvs k v) (putA al k d) := by
  unfold putK putA
  rw [t.any k]
  split
  · exact t.set r
  · exact t.snoc r
theorem KR.drop (k : Key) : ∀ {kvs : List (Key × V)} {al : List (Key × Dat)}, KR K cm F kvs al → KR K cm F (dropK kvs k) (dropA al k)
  | _, _, .nil => .nil
  | _, _, @KR.cons _ _ _ k' v' d' kvs al r' t => by
    have ih := KR.drop k t
    unfold dropK dropA at ih ⊢
    rw [List.filter_cons, List.filter_cons]
    by_cases h : k' = k
    · simp only [h, ne_eq, not_true_eq_false, decide_false, Bool.false_eq_true, ↓reduceIte]; exact ih
    · simp only [h, ne_eq, not_false_eq_true, decide_true, ↓reduceIte]; exact .cons r' ih
theorem KR.get {k : Key} {d : Dat} : ∀ {kvs : List (Key × V)} {al : List (Key × Dat)}, KR K cm F kvs al → getA al k = some d → ∃ v, valV kvs k = some v ∧ R K cm F v d
  | _, _, .nil, h => by cases h
  | _, _, @KR.cons _ _ _ k' v' d' kvs al r' t, h => by
    unfold getA at h
    rw [List.find?_cons] at h
    by_cases hk : k' = k
    · simp only [hk, decide_true] at h
      cases h
      exact ⟨v', valV_pos hk, r'⟩
    · simp only [hk, decide_false] at h
      obtain ⟨v, h1, h2⟩ := KR.get t h
      exact ⟨v, by rw [valV_neg (by exact hk)]; exact h1, h2⟩
theorem KR.no {k : Key} : ∀ {kvs : List (Key × V)} {al : List (Key × Dat)}, KR K cm F kvs al → getA al k = none → valV kvs k = none
  | _, _, .nil, h => rfl
  | _, _, @KR.cons _ _ _ k' v' d' kvs al r' t, h => by
    unfold getA at h
    rw [List.find?_cons] at h
    by_cases hk : k' = k
    · simp only [hk, decide_true] at h
      cases h
    · simp only [hk, decide_false] at h
      rw [valV_neg (by exact hk)]
      exact KR.no t h
/-! ### what a cell holds -/
theorem Cells.lst (cl : Cells K cm F H) {v : V} {k : Nat} {xs : List Dat} (r : R K cm F v (.cel k)) (hz : cm.z[k]? = some (.lst xs)) : ∃ a vs, v = .ref a ∧ (cm.t k = some a ∧ F a = none) ∧ H a = some (.lst vs) ∧ Rs K cm F vs xs := by
  obtain ⟨a, rfl, ht⟩ := r.cel_inv
  obtain ⟨n, hc⟩ := cl.get ht hz
  obtain ⟨vs, h1, h2⟩ := hc.lst_inv
  exact ⟨a, vs, rfl, ⟨ht, n⟩, h1, h2⟩
theorem Cells.dct (cl : Cells K cm F H) {v : V} {k : Nat} {ks : List Key} {xs : List Dat} (r : R K cm F v (.cel k)) (hz : cm.z[k]? = some (.dct ks xs)) : ∃ a kvs, v = .ref a ∧ (cm.t k = some a ∧ F a = none) ∧ H a = some (.dK kvs) ∧ kvs.map (·.1) = ks ∧ KR K cm F kvs (ks.zip xs) := by
  obtain ⟨a, rfl, ht⟩ := r.cel_inv
  obtain ⟨n, hc⟩ := cl.get ht hz
  obtain ⟨kvs, h1, h2, h3⟩ := hc.dct_inv
  subst h2
  exact ⟨a, kvs, rfl, ⟨ht, n⟩, h1, rfl, KR.of h3⟩
theorem Cells.obj (cl : Cells K cm F H) {v : V} {k : Nat} {c : Str} {fs : List Str} {xs : List Dat} (r : R K cm F v (.cel k)) (hz : cm.z[k]? = some (.obj c fs xs)) : ∃ a dx fvs, v = .ref a ∧ (cm.t k = some a ∧ F a = none) ∧ H a = some (.ins (cm.c c) dx fvs) ∧ fvs.map (·.1) = fs ∧ Rs K cm F (fvs.map (·.2)) xs := by
  obtain ⟨a, rfl, ht⟩ := r.cel_inv
  obtain ⟨n, hc⟩ := cl.get ht hz
  obtain ⟨dx, fvs, h1, h2, h3⟩ := hc.obj_inv
  exact ⟨a, dx, fvs, rfl, ⟨ht, n⟩, h1, h2, h3⟩
theorem Grow.setL {k : Nat} {a : Addr} {vs : List V} {xs : List Dat} (e : Same F H) (cl : Cells K cm F H) (hk : cm.t k = some a ∧ F a = none) (r : Rs K cm F vs xs) : Grow K cm F ⟨cm.c, cm.t, cm.z.set k (.lst xs)⟩ F (upd H a (.lst vs)) (cm.z.set k (.lst xs)) :=
  Grow.set e cl hk.1 hk.2 (.lst upd_same (Rs.cmono (cm := cm) (cm' := ⟨cm.c, cm.t, cm.z.set k (.lst xs)⟩) (Same.refl F) rfl (fun _ _ h => h) r))
theorem Grow.setD {k : Nat} {a : Addr} {kvs : List (Key × V)} {al : List (Key × Dat)} (e : Same F H) (cl : Cells K cm F H) (hk : cm.t k = some a ∧ F a = none) (r : KR K cm F kvs al) : Grow K cm F ⟨cm.c, cm.t, cm.z.set k (dctA al)⟩ F (upd H a (.dK kvs)) (cm.z.set k (dctA al)) :=
  Grow.set e cl hk.1 hk.2 (.dct upd_same r.keys (Rs.cmono (cm := cm) (cm' := ⟨cm.c, cm.t, cm.z.set k (dctA al)⟩) (Same.refl F) rfl (fun _ _ h => h) r.vals))
theorem Grow.setO {k : Nat} {a dx : Addr} {c : Str} {fvs : List (Str × V)} {xs : List Dat} (e : Same F H) (cl : Cells K cm F H) (hk : cm.t k = some a ∧ F a = none) (r : Rs K cm F (fvs.map (·.2)) xs) : Grow K cm F ⟨cm.c, cm.t, cm.z.set k (.obj c (fvs.map (·.1)) xs)⟩ F (upd H a (.ins (cm.c c) dx fvs)) (cm.z.set k (.obj c (fvs.map (·.1)) xs)) :=
  Grow.set e cl hk.1 hk.2 (.obj (dx := dx) (fvs := fvs) upd_same rfl (Rs.cmono (cm := cm) (cm' := ⟨cm.c, cm.t, cm.z.set k (.obj c (fvs.map (·.1)) xs)⟩) (Same.refl F) rfl (fun _ _ h => h) r))
end
section
variable {X : Cx} {c : Str → Addr} {W : L2.WX} {e a b o : Expr} {es : List Expr} {st : Stmt} {sts : List Stmt} {pos pos' apos cpos : Pos} {fo fa fb : Sto → Rho → EZ Dat} {fs : Sto → Rho → EZ (List Dat)}
/-! ### methods of lists and dicts -/
def bmZ (kind : Sto → Dat → Bool) (op : Sto → Dat → List Dat → EZ Dat) (fo : Sto → Rho → EZ Dat) (fa : Sto → Rho → EZ (List Dat)) (z : Sto) (ρ : Rho) : EZ Dat := (fo z ρ).bind fun z1 d => if kind z1 d = true then (fa z1 ρ).bind fun z2 ds => op z2 d ds else .bad
def KindOk (K : PySem.W.Frag) (T : String) (kind : Sto → Dat → Bool) : Prop := ∀ cm F H v d, Same F H → Cells K cm F H → R K cm F v d → kind cm.z d = true → tyV K T v H
def OpOk (K : PySem.W.Frag) (r : V → List V → Hp → VK → Prop) (op : Sto → Dat → List Dat → EZ Dat) : Prop := ∀ cm F H v vs d ds (Q : VK) (Xc : CM → Hp → Hp → Str → Prop), Same F H → Cells K cm F H → R K cm F v d → Rs K cm F vs ds → PoE K (fun cm' F' H' d => ∀ v, R K cm' F' v d → Q v H') Xc cm F (op cm.z d ds) → r v vs H Q
theorem z_bm {T name id : String} {nm : Str} {r : V → List V → Hp → VK → Prop} {kind : Sto → Dat → Bool} {op : Sto → Dat → List Dat → EZ Dat} (hk : KindOk X.K T kind) (hop : OpOk X.K r op) 
    (rule : ∀ {ts : TE} {ta : TA}, PE X o ts → PA X (e :: es) ta → PE X (.Call (.Attribute o nm apos) (e :: es) [] cpos) (tBM X.K T r ts ta)) (ho : PE X o (ofZE X.K c W fo)) (ha : PA X (e :: es) (ofZA X.K c W fs)) : PE X (.Call (.Attribute o nm apos) (e :: es) [] cpos) (ofZE X.K c W (bmZ kind op fo fs)) :=
  PE.imp (rule ho ha) fun σ H Q ⟨cm, F, ρ, hc, rel, q⟩ => ⟨cm, F, ρ, hc, rel, PoE.mono (PoE.bind q) (fun cm1 F1 H1 d z1 g1 q1 v r => by
    by_cases hi : kind cm1.z d = true
    · rw [if_pos hi] at q1
      exact ⟨hk cm1 F1 H1 v d g1.fh g1.cel r hi, cm1, F1, ρ, g1.c.trans hc, rel.grow g1, PoE.mono (PoE.bind q1) (fun cm2 F2 H2 ds z2 g2 q2 vs rs => hop cm2 F2 H2 v vs d ds Q _ g2.fh g2.cel (g2.r r) rs q2) fun _ _ _ _ _ _ h => h⟩
    · rw [if_neg hi] at q1
      exact q1.elim) fun _ _ _ _ _ _ h => h⟩
def OpOk0 (K : PySem.W.Frag) (r : V → List V → Hp → VK → Prop) (op : Sto → Dat → List Dat → EZ Dat) : Prop := ∀ cm F H v d (Q : VK) (Xc : CM → Hp → Hp → Str → Prop), Same F H → Cells K cm F H → R K cm F v d → PoE K (fun cm' F' H' d => ∀ v, R K cm' F' v d → Q v H') Xc cm F (op cm.z d []) → r v [] H Q
theorem z_bm0 {T : String} {nm : Str} {r : V → List V → Hp → VK → Prop} {kind : Sto → Dat → Bool} {op : Sto → Dat → List Dat → EZ Dat} (hk : KindOk X.K T kind) (hop : OpOk0 X.K r op) 
    (rule : ∀ {ts : TE}, PE X o ts → PE X (.Call (.Attribute o nm apos) [] [] cpos) (tBM0 X.K T r ts)) (ho : PE X o (ofZE X.K c W fo)) : PE X (.Call (.Attribute o nm apos) [] [] cpos) (ofZE X.K c W (bmZ kind op fo nilZ)) :=
  PE.imp (rule ho) fun σ H Q ⟨cm, F, ρ, hc, rel, q⟩ => ⟨cm, F, ρ, hc, rel, PoE.mono (PoE.bind q) (fun cm1 F1 H1 d z1 g1 q1 v r => by
    by_cases hi : kind cm1.z d = true
    · rw [if_pos hi] at q1
      exact ⟨hk cm1 F1 H1 v d g1.fh g1.cel r hi, hop cm1 F1 H1 v d Q _ g1.fh g1.cel r q1⟩
    · rw [if_neg hi] at q1
      exact q1.elim) fun _ _ _ _ _ _ h => h⟩
def isL (z : Sto) : Dat → Bool
  | .cel k => match z[k]? with
    | some (.lst _) => true
    | _ => false
  | _ => false
def isDc (z : Sto) : Dat → Bool
  | .cel k => match z[k]? with
    | some (.dct _ _) => true
    | _ => false
  | _ => false
theorem kind_L (K : PySem.W.Frag) : KindOk K "list" isL := fun cm F H v d e cl r h => by
  unfold isL at h
  split at h
  · split at h
    · rename_i k xs hz
      obtain ⟨a, vs, rfl, ht, h1, h2⟩ := cl.lst r hz
      exact .inl ⟨rfl, _, SqL.of h1⟩
    · cases h
  · cases h
theorem kind_D (K : PySem.W.Frag) : KindOk K "dict" isDc := fun cm F H v d e cl r h => by
  unfold isDc at h
  split at h
  · split at h
    · rename_i k ks xs hz
      obtain ⟨a, kvs, rfl, ht, h1, h2, h3⟩ := cl.dct r hz
      exact .inr (.inr (.inl ⟨rfl, .inl ⟨_, h1⟩⟩))
    · cases h
  · cases h
def appD (z : Sto) (o : Dat) (ds : List Dat) : EZ Dat := match o, ds with
  | .cel k, [d] => match z[k]? with
    | some (.lst xs) => @ite _ (xs.length < sizeLine) (Classical.propDecidable _) (.ok (z.set k (.lst (xs ++ [d]))) .non) .bad
    | _ => .bad
  | _, _ => .bad
theorem op_app (K : PySem.W.Frag) : OpOk K rAppend appD := fun cm F H v vs d ds Q Xc e cl r rs q => by
  unfold appD at q
  split at q
  · rename_i k y
    split at q
    · rename_i xs hz
      by_cases hl : xs.length < sizeLine
      · rw [if_pos hl] at q
        obtain ⟨a, ws, rfl, ht, h1, h2⟩ := cl.lst r hz
        cases rs with
        | cons ry rn =>
          cases rn
          exact ⟨a, ws, _, rfl, rfl, h1, by rw [h2.length]; exact hl, q _ F _ (Grow.setL e cl ht (h2.append (.cons ry .nil))) .non .non⟩
      · rw [if_neg hl] at q
        exact q.elim
    · exact q.elim
  · exact q.elim
theorem z_append (ho : PE X o (ofZE X.K c W fo)) (ha : PE X a (ofZE X.K c W fa)) (hbase : attributeBase o "append" X.env (eval o X.env) = eval o X.env := by rfl)
    (hfew : ((backTo cpos (starEach [a] X.env)).all (fun x => !x.1) && (backToKw cpos (keywordEach [] X.env)).all (fun x => x.1.isSome) && decide ([a].length + ([] : List Keyword).length + (if ([] : List Keyword).isEmpty then 0 else 1) < 30)) = true := by rfl)
    (hline : (apos.endLine == cpos.line) = true := by rfl) (hst : starEach [a] X.env = (false, eval a X.env) :: starEach [] X.env := by rfl) (hplain : (backTo cpos (starEach [] X.env)).any (·.1) = false := by rfl) :
    PE X (.Call (.Attribute o "append" apos) [a] [] cpos) (ofZE X.K c W (bmZ isL appD fo (consZ fa nilZ))) :=
  z_bm (T := "list") (name := "") (id := "") (kind_L X.K) (op_app X.K) (fun h1 h2 => pe_bm PySem.F.plainAttrs_list PySem.F.slot_list_append PySem.F.type_list_append mt_append h1 h2 hbase hfew hline hst hplain) ho (za_cons ha za_nil hst)
def clrD (z : Sto) (o : Dat) (ds : List Dat) : EZ Dat := match o with
  | .cel k => match z[k]? with
    | some (.lst xs) => .ok (z.set k (.lst [])) .non
    | _ => .bad
  | _ => .bad
theorem op_clr (K : PySem.W.Frag) : OpOk0 K rClear clrD := fun cm F H v d Q Xc e cl r q => by
  unfold clrD at q
  split at q
  · split at q
    · rename_i k xs hz
      obtain ⟨a, ws, rfl, ht, h1, h2⟩ := cl.lst r hz
      exact ⟨a, ws, rfl, rfl, h1, q _ F _ (Grow.setL e cl ht .nil) .non .non⟩
    · exact q.elim
  · exact q.elim
theorem z_clear (ho : PE X o (ofZE X.K c W fo)) (hbase : attributeBase o "clear" X.env (eval o X.env) = eval o X.env := by rfl) (hline : (apos.endLine == cpos.line) = true := by rfl) :
    PE X (.Call (.Attribute o "clear" apos) [] [] cpos) (ofZE X.K c W (bmZ isL clrD fo nilZ)) :=
  z_bm0 (T := "list") (kind_L X.K) (op_clr X.K) (fun h1 => pe_bm0 PySem.F.plainAttrs_list PySem.F.slot_list_clear PySem.F.type_list_clear mt_clear h1 hbase hline) ho
def clrDD (z : Sto) (o : Dat) (ds : List Dat) : EZ Dat := match o with
  | .cel k => match z[k]? with
    | some (.dct ks xs) => .ok (z.set k (.dct [] [])) .non
    | _ => .bad
  | _ => .bad
theorem op_clrD (K : PySem.W.Frag) : OpOk0 K rDClear clrDD := fun cm F H v d Q Xc e cl r q => by
  unfold clrDD at q
  split at q
  · split at q
    · rename_i k ks xs hz
      obtain ⟨a, kvs, rfl, ht, h1, h2, h3⟩ := cl.dct r hz
      exact ⟨a, kvs, rfl, rfl, h1, q _ F _ (Grow.setD e cl ht (.nil)) .non .non⟩
    · exact q.elim
  · exact q.elim
theorem z_dclear (ho : PE X o (ofZE X.K c W fo)) (hbase : attributeBase o "clear" X.env (eval o X.env) = eval o X.env := by rfl) (hline : (apos.endLine == cpos.line) = true := by rfl) :
    PE X (.Call (.Attribute o "clear" apos) [] [] cpos) (ofZE X.K c W (bmZ isDc clrDD fo nilZ)) :=
  z_bm0 (T := "dict") (kind_D X.K) (op_clrD X.K) (fun h1 => pe_dclear h1 hbase hline) ho
/-! dict.pop -/
def popD (z : Sto) (o kd : Dat) : EZ Dat := match o, isK kd with
  | .cel k, some j => match z[k]? with
    | some (.dct ks xs) => match getA (ks.zip xs) j with
      | some d => .ok (z.set k (dctA (dropA (ks.zip xs) j))) d
      | none => .bad
    | _ => .bad
  | _, _ => .bad
def dpop1Z (fo fa : Sto → Rho → EZ Dat) (z : Sto) (ρ : Rho) : EZ Dat := (fo z ρ).bind fun z1 o => if isDc z1 o = true then (fa z1 ρ).bind fun z2 kd => popD z2 o kd else .bad
theorem isDc_at {K : PySem.W.Frag} {cm : CM} {F H : Hp} {v : V} {d : Dat} (cl : Cells K cm F H) (r : R K cm F v d) (h : isDc cm.z d = true) : ∃ a, v = .ref a ∧ IsD H a := by
  unfold isDc at h
  split at h
  · split at h
    · rename_i k ks xs hz
      obtain ⟨a, kvs, rfl, ht, h1, h2, h3⟩ := cl.dct r hz
      exact ⟨a, rfl, .inl ⟨_, .inl h1⟩⟩
    · cases h
  · cases h
theorem z_dpop1 (ho : PE X o (ofZE X.K c W fo)) (ha : PE X a (ofZE X.K c W fa)) (m : M1 X o "pop" apos a cpos := by exact ⟨rfl, rfl, rfl, rfl⟩) : PE X (.Call (.Attribute o "pop" apos) [a] [] cpos) (ofZE X.K c W (dpop1Z fo fa)) :=
  PE.imp (pe_dpop1 ho ha m) fun σ H Q ⟨cm, F, ρ, hc, rel, q⟩ => ⟨cm, F, ρ, hc, rel, PoE.mono (PoE.bind q) (fun cm1 F1 H1 d z1 g1 q1 v r => by
    by_cases hi : isDc cm1.z d = true
    · rw [if_pos hi] at q1
      obtain ⟨p, rfl, hp⟩ := isDc_at g1.cel r hi
      refine ⟨p, rfl, hp, cm1, F1, ρ, g1.c.trans hc, rel.grow g1, PoE.mono (PoE.bind q1) (fun cm2 F2 H2 kd z2 g2 q2 w rk => ?_) fun _ _ _ _ _ _ h => h⟩
      have r2 := g2.r r
      unfold popD at q2
      split at q2
      · rename_i k j ej
        have ew := isK_V rk ej
        subst ew
        split at q2
        · rename_i ks xs hz
          obtain ⟨p', kvs, ep, ht, h1, h2, h3⟩ := g2.cel.dct r2 hz
          cases ep
          split at q2
          · rename_i d' hg
            obtain ⟨u, h4, h5⟩ := h3.get hg
            refine ⟨kvs, j, u, h1, rfl, h4, q2 _ F2 _ (Grow.setD g2.fh g2.cel ht (h3.drop j)) u ?_⟩
            exact R.cmono (cm := cm2) (cm' := ⟨cm2.c, cm2.t, cm2.z.set k (dctA (dropA (ks.zip xs) j))⟩) (Same.refl F2) rfl (fun _ _ h => h) h5
          · exact q2.elim
        · exact q2.elim
      · exact q2.elim
    · rw [if_neg hi] at q1
      exact q1.elim) fun _ _ _ _ _ _ h => h⟩
/-! o[k] = e, a dict -/
def dputZ (fa fo fk : Sto → Rho → EZ Dat) (z : Sto) (ρ : Rho) : RZ := toRZ ((fa z ρ).bind fun z1 d => (fo z1 ρ).bind fun z2 o => (fk z2 ρ).bind fun z3 kd => match o, isK kd with
  | .cel k, some j => match z3[k]? with
    | some (.dct ks xs) => @ite _ (ks.length < sizeLine) (Classical.propDecidable _) (.ok (z3.set k (dctA (putA (ks.zip xs) j d))) .non) .bad
    | _ => .bad
  | _, _ => .bad) ρ fun z (_ : Dat) => .nx z ρ
theorem z_dput {fk : Sto → Rho → EZ Dat} (hu : X.A.units + 1 < cLine) (ho : PE X o (ofZE X.K c W fo)) (hk : PE X b (ofZE X.K c W fk)) (ha : PE X a (ofZE X.K c W fa)) (hs : swapsWith a (some (.Subscript o b pos')) pos.line X.env = pure false := by rfl) :
    PS X (.Assign [.Subscript o b pos'] a pos) (ofZS X.K c W (dputZ fa fo fk)) := PS.imp (ps_dput hu ho hk ha hs) fun D σ H ⟨cm0, F0, z, ρ, hc, ⟨cm, F, g, rel⟩, q⟩ => by
  have ez := g.z
  subst ez
  have q0 := post_e (P := fun cm' F' H' (_ : Dat) => D.nx σ H') g rel q fun cm' F' H' z' d s g1 g2 r2 q2 => q2 σ H' s
  refine ⟨cm, F, ρ, g.c.trans hc, rel, PoE.mono (PoE.bind q0) (fun cm1 F1 H1 d z1 g1 q1 v r => ?_) fun _ _ _ _ _ _ h => h⟩
  refine ⟨cm1, F1, ρ, g1.c.trans (g.c.trans hc), rel.grow g1, PoE.mono (PoE.bind q1) (fun cm2 F2 H2 od z2 g2 q2 vo ro => ?_) fun _ _ _ _ _ _ h => h⟩
  refine ⟨cm2, F2, ρ, g2.c.trans (g1.c.trans (g.c.trans hc)), (rel.grow g1).grow g2, PoE.mono (PoE.bind q2) (fun cm3 F3 H3 kd z3 g3 q3 vk rk => ?_) fun _ _ _ _ _ _ h => h⟩
  have r3 := (g2.trans g3).r r
  have ro3 := g3.r ro
  split at q3
  · rename_i k j ej
    have ew := isK_V rk ej
    subst ew
    split at q3
    · rename_i ks xs hz
      obtain ⟨p, kvs, rfl, ht, h1, h2, h3⟩ := g3.cel.dct ro3 hz
      by_cases hl : ks.length < sizeLine
      · rw [if_pos hl] at q3
        exact ⟨p, _, rfl, DPut.k h1 (by rw [← List.length_map (f := (·.1)), h2]; exact hl), q3 _ F3 _ (Grow.setD g3.fh g3.cel ht (h3.put r3))⟩
      · rw [if_neg hl] at q3
        exact q3.elim
    · exact q3.elim
  · exact q3.elim
/-! o.f = e -/
def putFD (f : Str) (d : Dat) : List Str → List Dat → List Str × List Dat
  | g :: gs, x :: xs => if g = f then (g :: gs, d :: xs) else (g :: (putFD f d gs xs).1, x :: (putFD f d gs xs).2)
  | _, _ => ([f], [d])
theorem putF_is {K : PySem.W.Frag} {cm : CM} {F : Hp} {f : Str} {v : V} {d : Dat} (r : R K cm F v d) : ∀ {fvs : List (Str × V)} {xs : List Dat}, Rs K cm F (fvs.map (·.2)) xs → (putF f v fvs).map (·.1) = (putFD f d (fvs.map (·.1)) xs).1 ∧ Rs K cm F ((putF f v fvs).map (·.2)) (putFD f d (fvs.map (·.1)) xs).2
  | [], _, .nil => ⟨rfl, .cons r .nil⟩
  | (g, y) :: fvs, x :: xs, .cons r' t => by
    obtain ⟨h1, h2⟩ := putF_is r t
    rw [putF, List.map_cons, putFD]
    by_cases h : g = f
    · simp only [h, ↓reduceIte]
      exact ⟨rfl, .cons r t⟩
    · simp only [h, ↓reduceIte]
      exact ⟨by rw [List.map_cons, h1], .cons r' h2⟩
def fputD (cs : List Str) (f : Str) (z : Sto) (o d : Dat) : EZ Dat := match o with
  | .cel k => match z[k]? with
    | some (.obj c fs xs) => if c ∈ cs ∧ fs.length < 1000 then .ok (z.set k (.obj c (putFD f d fs xs).1 (putFD f d fs xs).2)) .non else .bad
    | _ => .bad
  | _ => .bad
def fputZ (cs : List Str) (f : Str) (fa fo : Sto → Rho → EZ Dat) (z : Sto) (ρ : Rho) : RZ := toRZ ((fa z ρ).bind fun z1 d => (fo z1 ρ).bind fun z2 o => fputD cs f z2 o d) ρ fun z (_ : Dat) => .nx z ρ
theorem z_fput {cs : List Str} {f : Str} (hcl : ∀ n ∈ cs, Cls X.K (c n) ∧ NoAttr X.K (c n) f) (ho : PE X o (ofZE X.K c W fo)) (ha : PE X a (ofZE X.K c W fa)) (hs : swapsWith a (some (.Attribute o f pos')) pos.line X.env = pure false := by rfl) :
    PS X (.Assign [.Attribute o f pos'] a pos) (ofZS X.K c W (fputZ cs f fa fo)) := PS.imp (ps_fld ho ha hs) fun D σ H ⟨cm0, F0, z, ρ, hc, ⟨cm, F, g, rel⟩, q⟩ => by
  have ez := g.z
  subst ez
  have q0 := post_e (P := fun cm' F' H' (_ : Dat) => D.nx σ H') g rel q fun cm' F' H' z' d s g1 g2 r2 q2 => q2 σ H' s
  refine ⟨cm, F, ρ, g.c.trans hc, rel, PoE.mono (PoE.bind q0) (fun cm1 F1 H1 d z1 g1 q1 v r => ?_) fun _ _ _ _ _ _ h => h⟩
  refine ⟨cm1, F1, ρ, g1.c.trans (g.c.trans hc), rel.grow g1, PoE.mono (PoE.bind q1) (fun cm2 F2 H2 od z2 g2 q2 vo ro => ?_) fun _ _ _ _ _ _ h => h⟩
  have r2 := g2.r r
  have ec : cm2.c = c := g2.c.trans (g1.c.trans (g.c.trans hc))
  unfold fputD at q2
  split at q2
  · rename_i k
    split at q2
    · rename_i c' fs xs hz
      by_cases hl : c' ∈ cs ∧ fs.length < 1000
      · simp only [hl, and_self, ↓reduceIte] at q2
        obtain ⟨p, dx, fvs, rfl, ht, h1, h2, h3⟩ := g2.cel.obj ro hz
        obtain ⟨p1, p2⟩ := putF_is (f := f) r2 h3
        have hh := hcl c' hl.1
        rw [← ec] at hh
        subst h2
        refine ⟨p, _, dx, fvs, rfl, h1, hh.1, hh.2, by have := hl.2; rw [List.length_map] at this; exact this, ?_⟩
        have g3 := Grow.setO (dx := dx) (c := c') (fvs := putF f v fvs) g2.fh g2.cel ht p2
        rw [p1] at g3
        exact q2 _ F2 _ g3
      · simp only [hl, ↓reduceIte] at q2
        exact q2.elim
    · exact q2.elim
  · exact q2.elim
/-! o.f -/
def optZ (z : Sto) (o : Option Dat) : EZ Dat := match o with
  | some d => .ok z d
  | none => .bad
def fldZD (cs : List Str) (f : Str) (z : Sto) (d : Dat) : Option Dat := match d with
  | .cel k => match z[k]? with
    | some (.obj c fs xs) => if c ∈ cs then lookF fs xs f else none
    | _ => none
  | d => fldD cs f d
def fldZ (cs : List Str) (f : Str) (fa : Sto → Rho → EZ Dat) (z : Sto) (ρ : Rho) : EZ Dat := (fa z ρ).bind fun z1 d => optZ z1 (fldZD cs f z1 d)
theorem z_fld {cs : List Str} {f : Str} (hcl : ∀ n ∈ cs, Cls X.K (c n) ∧ NoAttr X.K (c n) f) (ha : PE X a (ofZE X.K c W fa)) (hb : attributeBase a f X.env (eval a X.env) = eval a X.env := by rfl) : PE X (.Attribute a f pos) (ofZE X.K c W (fldZ cs f fa)) := PE.imp (pe_fld ha hb) fun σ H Q ⟨cm, F, ρ, hc, rel, q⟩ =>
  ⟨cm, F, ρ, hc, rel, PoE.mono (PoE.bind q) (fun cm1 F1 H1 d z1 g1 q1 v r => by
    have ec : cm1.c = c := g1.c.trans hc
    cases hf : fldZD cs f cm1.z d with
    | none => rw [hf] at q1; exact q1.elim
    | some d' =>
      rw [hf] at q1
      unfold fldZD at hf
      split at hf
      · rename_i k
        split at hf
        · rename_i c' fs xs hz
          split at hf
          · rename_i hmem
            obtain ⟨p, dx, fvs, rfl, ht, h1, h2, h3⟩ := g1.cel.obj r hz
            rw [← h2] at hf
            obtain ⟨w, e1, e2⟩ := look_fld h3 hf
            have hh := hcl c' hmem
            rw [← ec] at hh
            exact ⟨p, _, dx, fvs, w, rfl, h1, hh.1, hh.2, e1, q1 cm1 F1 H1 (Grow.refl g1.fh g1.cel) w e2⟩
          · cases hf
        · cases hf
      · unfold fldD at hf
        split at hf
        · split at hf
          · rename_i c' fs xs _ hmem
            obtain ⟨p, dx, fvs, rfl, h1, h2, h3⟩ := r.obj_inv
            rw [← h2] at hf
            obtain ⟨w, e1, e2⟩ := look_fld h3 hf
            have hh := hcl c' hmem
            rw [← ec] at hh
            exact ⟨p, _, dx, fvs, w, rfl, g1.fh _ _ h1, hh.1, hh.2, e1, q1 cm1 F1 H1 (Grow.refl g1.fh g1.cel) w e2⟩
          · cases hf
        · cases hf) fun _ _ _ _ _ _ h => h⟩
/-! o[k] -/
def subZD (z : Sto) (o k : Dat) : Option Dat := match o with
  | .cel j => match z[j]? with
    | some (.lst xs) => match k with
      | .int i => atI xs i
      | _ => none
    | some (.dct ks xs) => (isK k).bind fun k => getA (ks.zip xs) k
    | _ => none
  | d => subD' d k
def subZ (fa fb : Sto → Rho → EZ Dat) (z : Sto) (ρ : Rho) : EZ Dat := (fa z ρ).bind fun z1 o => (fb z1 ρ).bind fun z2 k => optZ z2 (subZD z2 o k)
theorem z_sub (hu : X.A.units + 1 < cLine) (ha : PE X a (ofZE X.K c W fa)) (hb : PE X b (ofZE X.K c W fb)) (hs : PlainIx b := by exact fun _ _ => rfl) : PE X (.Subscript a b pos) (ofZE X.K c W (subZ fa fb)) := PE.imp (pe_ix (ix_seq.or (ix_dk hu)) ha hb hs) fun σ H Q ⟨cm, F, ρ, hc, rel, q⟩ =>
  ⟨cm, F, ρ, hc, rel, PoE.mono (PoE.bind q) (fun cm1 F1 H1 o z1 g1 q1 vo ro => ⟨cm1, F1, ρ, g1.c.trans hc, rel.grow g1, PoE.mono (PoE.bind q1) (fun cm2 F2 H2 kd z2 g2 q2 vk rk => by
    have ro2 := g2.r ro
    cases hf : subZD cm2.z o kd with
    | none => rw [hf] at q2; exact q2.elim
    | some d' =>
      rw [hf] at q2
      unfold subZD at hf
      split at hf
      · rename_i j
        split at hf
        · rename_i xs hz
          split at hf
          · rename_i i
            obtain ⟨p, vs, rfl, ht, h1, h2⟩ := g2.cel.lst ro2 hz
            obtain ⟨w, e1, e2⟩ := h2.atI hf
            exact .inl (.inl ⟨p, vs, i, w, rfl, rk.int_inv, SqL.of h1, e1, q2 cm2 F2 H2 (Grow.refl g2.fh g2.cel) w e2⟩)
          · cases hf
        · rename_i ks xs hz
          obtain ⟨key, ek, hf⟩ := bind_some hf
          obtain ⟨p, kvs, rfl, ht, h1, h2, h3⟩ := g2.cel.dct ro2 hz
          obtain ⟨w, e1, e2⟩ := h3.get hf
          have ev := isK_V rk ek
          subst ev
          exact .inr ⟨p, w, rfl, .inl ⟨kvs, key, .inl h1, rfl, e1.symm⟩, q2 cm2 F2 H2 (Grow.refl g2.fh g2.cel) w e2⟩
        · cases hf
      · exact od_sub' F2 H2 _ _ o kd d' Q g2.fh ro2 rk hf fun v F' H' x r => q2 cm2 F' H' (Grow.ofExt x g2.cel) v r) fun _ _ _ _ _ _ h => h⟩) fun _ _ _ _ _ _ h => h⟩
/-! o[i] = e, a list -/
def lputZ (fa fo fk : Sto → Rho → EZ Dat) (z : Sto) (ρ : Rho) : RZ := toRZ ((fa z ρ).bind fun z1 d => (fo z1 ρ).bind fun z2 o => (fk z2 ρ).bind fun z3 kd => match o, kd with
  | .cel k, .int i => match z3[k]? with
    | some (.lst xs) => match ixN xs.length i with
      | some j => .ok (z3.set k (.lst (xs.set j d))) .non
      | none => .bad
    | _ => .bad
  | _, _ => .bad) ρ fun z (_ : Dat) => .nx z ρ
theorem Rs.setI {K : PySem.W.Frag} {cm : CM} {F : Hp} {v : V} {d : Dat} (r : R K cm F v d) : ∀ {vs : List V} {xs : List Dat} (j : Nat), Rs K cm F vs xs → Rs K cm F (vs.set j v) (xs.set j d)
  | _, _, _, .nil => .nil
  | _, _, 0, .cons _ t => .cons r t
  | _, _, j + 1, .cons r' t => .cons r' (Rs.setI r j t)
theorem z_lput {fk : Sto → Rho → EZ Dat} (ho : PE X o (ofZE X.K c W fo)) (hk : PE X b (ofZE X.K c W fk)) (ha : PE X a (ofZE X.K c W fa))
    (hs : swapsWithSole [.Subscript o b pos'] a pos.line X.env = pure false := by rfl) (hw : swappedStores [.Subscript o b pos'] a X.env = pure none := by rfl)
    (h1 : (assignEach [.Subscript o b pos'] X.env).map (·.2) = [assign (.Subscript o b pos') X.env] := by rfl)
    (hasg : ∀ v, assign (.Subscript o b pos') X.env v = (do
      let ov ← holding [v] (eval o X.env)
      let iv ← holding [v, ov] (eval b X.env)
      standAt pos'
      holding [v, ov, iv] (setItem ov iv v)
      release [v, ov, iv] []) := by intro _; rfl) :
    PS X (.Assign [.Subscript o b pos'] a pos) (ofZS X.K c W (lputZ fa fo fk)) := PS.imp (ps_asg ha (pg_sub (pos := pos') ho hk set_list hasg) hs hw h1) fun D σ H ⟨cm0, F0, z, ρ, hc, ⟨cm, F, g, rel⟩, q⟩ => by
  have ez := g.z
  subst ez
  have q0 := post_e (P := fun cm' F' H' (_ : Dat) => D.nx σ H') g rel q fun cm' F' H' z' d s g1 g2 r2 q2 => q2 σ H' s
  refine ⟨cm, F, ρ, g.c.trans hc, rel, PoE.mono (PoE.bind q0) (fun cm1 F1 H1 d z1 g1 q1 v r => ?_) fun _ _ _ _ _ _ h => h⟩
  refine ⟨cm1, F1, ρ, g1.c.trans (g.c.trans hc), rel.grow g1, PoE.mono (PoE.bind q1) (fun cm2 F2 H2 od z2 g2 q2 vo ro => ?_) fun _ _ _ _ _ _ h => h⟩
  refine ⟨cm2, F2, ρ, g2.c.trans (g1.c.trans (g.c.trans hc)), (rel.grow g1).grow g2, PoE.mono (PoE.bind q2) (fun cm3 F3 H3 kd z3 g3 q3 vk rk => ?_) fun _ _ _ _ _ _ h => h⟩
  have r3 := (g2.trans g3).r r
  have ro3 := g3.r ro
  split at q3
  · rename_i k i
    split at q3
    · rename_i xs hz
      obtain ⟨p, vs, rfl, ht, h1, h2⟩ := g3.cel.lst ro3 hz
      split at q3
      · rename_i j ej
        exact ⟨p, vs, i, j, rfl, rk.int_inv, h1, by rw [h2.length]; exact ej, q3 _ F3 _ (Grow.setL g3.fh g3.cel ht (Rs.setI r3 j h2))⟩
      · exact q3.elim
    · exact q3.elim
  · exact q3.elim
end
end
end Pq

namespace Pq
open PySem PySem.Spec PyProof.Rows L2
noncomputable section
section
variable {X : Cx} {cm : CM} {W : L2.WX} {e a : Expr} {st : Stmt} {pos apos cpos : Pos} {b : Rho → Res}
theorem lc_run0 {wi : TI} {ds : List Dat} {vs is : List Nat} {h : Dat → Rho → Option Rho} {t : Rho → Option Bool} {f : Rho → Option Dat} (hsub : ∀ i ∈ is, i ∈ vs) {F H : Hp} {σ : L2.St} {ρ : Rho} {As : Nat → List Addr} {out : List Dat} {Q : VK} (rel : Rel X.K cm F H σ ρ As) (hz : ds.length ≤ sizeLine) (hf : lcGo h t f (wipeR ρ vs) ds = some out) (hwi : ∀ Rr : It → Hp → Prop, (∀ F1 H1 J, Ext F H F1 H1 → Itf X.K cm J F1 ds → Rr J H1) → wi σ H Rr)
    (q : ∀ F' H' D acc, Ext F H F' H' → F' D = none → H D = none → H' D = some (.lst acc) → Rs X.K cm F' acc out → Q (.ref D) H') : tLc wi (ofG X.K cm h is) (ofT X.K cm t) (ofE X.K cm f) vs σ H Q := by
  refine hwi _ fun F1 H1 J x1 hJ D hD => ?_
  have hFD : F1 D = none := x1.fh.free hD
  refine ⟨fun i m H' => m = ds.length - i ∧ i ≤ ds.length ∧ ∃ F2 acc o1 o2, Ext F1 H1 F2 H' ∧ F2 D = none ∧ H' D = some (.lst acc) ∧ Rs X.K cm F2 acc o1 ∧ acc.length ≤ i ∧ lcGo h t f (wipeR ρ vs) (ds.drop i) = some o2 ∧ o1 ++ o2 = out,
    ⟨ds.length, by simp, Nat.zero_le _, F1, [], [], out, Ext.open x1.fh hD, hFD, upd_same, .nil, Nat.zero_le _, hf, rfl⟩, ?_⟩
  rintro i m H2 ⟨rfl, hi, F2, acc, o1, o2, x2, hF2, hH2, ra, la, hgo, heq⟩
  by_cases hlt : i < ds.length
  · refine .inr ⟨hJ.go i F2 H2 x2.f x2.fh ((rel.cel.ext x1).ext x2) hlt, fun H' => ∃ F3 acc' o1' o2', Ext F1 H1 F3 H' ∧ F3 D = none ∧ H' D = some (.lst acc') ∧ Rs X.K cm F3 acc' o1' ∧ acc'.length ≤ i + 1 ∧ lcGo h t f (wipeR ρ vs) (ds.drop (i + 1)) = some o2' ∧ o1' ++ o2' = out, fun H' z => ⟨ds.length - (i + 1), by omega, rfl, hlt, z⟩, fun x H' hy => ?_⟩
    obtain ⟨F3, d, x3, ed, rd⟩ := hJ.yld i F2 H2 x H' x2.f x2.fh ((rel.cel.ext x1).ext x2) hlt hy
    rw [List.drop_eq_getElem_cons hlt, lcGo] at hgo
    have edd : ds[i] = d := by rw [List.getElem?_eq_getElem hlt] at ed; exact Option.some.inj ed
    rw [edd] at hgo
    obtain ⟨ρ1, e2, hgo⟩ := bind_some hgo
    obtain ⟨c, e3, hgo⟩ := bind_some hgo
    have x123 := x1.trans (x2.trans x3)
    refine ⟨F3, wipeR ρ vs, As, d, ρ1, (rel.ext x123).wipe vs, rd, e2, fun σ2 As2 rel2 s2 ou2 l2 => ⟨wipe_eq (l2.trans (wipe_length _ _)) fun j hj => ou2 j fun z => hj (hsub j z), F3, ρ1, As2, c, rel2, e3, fun F4 H4 x4 => ?_⟩⟩
    have x34 := x3.trans x4
    cases c with
    | true =>
      rw [if_pos rfl] at hgo
      obtain ⟨y, e4, hgo⟩ := bind_some hgo
      obtain ⟨ys, e5, rfl⟩ := map_some' hgo
      refine iteT ?_
      refine ⟨F4, ρ1, As2, y, rel2.ext x4, e4, fun v F5 H5 x5 r5 => ?_⟩
      have x345 := x34.trans x5
      have hD5 := x345.h _ _ hH2
      have hF5 := ext_none x345 hH2 hF2
      refine ⟨acc, hD5, by omega, F5, acc ++ [v], o1 ++ [y], ys, ?_, hF5, upd_same, (ra.mono x345.f).append (.cons r5 .nil), by rw [List.length_append, List.length_singleton]; omega, e5, by rw [List.append_assoc]; exact heq⟩
      have xx := x2.trans x345
      refine ⟨xx.f, fun a o z => ?_, fun a o z => ?_, xx.new⟩
      · rw [upd_ne (ne_of_none z hD)]
        exact xx.h a o z
      · rw [upd_ne (ne_of_none z hF5)]
        exact xx.fh a o z
    | false =>
      rw [if_neg Bool.false_ne_true] at hgo
      refine iteF ?_
      exact ⟨F4, acc, o1, o2, x2.trans x34, ext_none x34 hH2 hF2, x34.h _ _ hH2, ra.mono x34.f, by omega, hgo, heq⟩
  · have ei : i = ds.length := by omega
    subst ei
    rw [List.drop_length, lcGo] at hgo
    cases hgo
    rw [List.append_nil] at heq
    subst heq
    exact .inl ⟨hJ.stop _ F2 H2 x2.f x2.fh ((rel.cel.ext x1).ext x2) (Nat.le_refl _), q F2 H2 D acc (x1.trans x2) hF2 (x1.h.free hD) hH2 ra⟩
theorem for_core {wi : TI} {D : Ends} {σ : L2.St} {H F F0 H0 : Hp} {ρ : Rho} {As : Nat → List Addr} {ds : List Dat} {h : Dat → Rho → Option Rho} {is : List Nat} (rel : Rel X.K cm F H σ ρ As) (x : Ext F0 H0 F H) (n : ∀ i, ∀ a ∈ As i, H0 a = none) (q : Post X.K cm W F0 H0 D (forGo h b ds ρ))
    (hwi : ∀ Rr : It → Hp → Prop, (∀ F1 H1 J, Ext F H F1 H1 → Itf X.K cm J F1 ds → Rr J H1) → wi σ H Rr) : tFor wi (ofG X.K cm h is) (ofS X.K cm W b) D σ H := by
  refine hwi _ fun F1 H1 J x1 hJ => ?_
  refine ⟨fun i m σ2 H2 => m = ds.length - i ∧ i ≤ ds.length ∧ ∃ ρ2 F2 As2, Rel X.K cm F2 H2 σ2 ρ2 As2 ∧ Ext F0 H0 F2 H2 ∧ Same F1 F2 ∧ (∀ i, ∀ a ∈ As2 i, H0 a = none) ∧ Post X.K cm W F0 H0 D (forGo h b (ds.drop i) ρ2),
    ⟨ds.length, by simp, Nat.zero_le _, ρ, F1, As, rel.ext x1, x.trans x1, Same.refl F1, n, q⟩, ?_⟩
  rintro i m σ2 H2 ⟨rfl, hi, ρ2, F2, As2, rel2, x2, s2, n2, q2⟩
  by_cases hlt : i < ds.length
  · refine .inr ⟨hJ.go i F2 H2 s2 rel2.fh rel2.cel hlt, fun σ' H' => ∃ ρ2 F3 As3, Rel X.K cm F3 H' σ' ρ2 As3 ∧ Ext F0 H0 F3 H' ∧ Same F1 F3 ∧ (∀ i, ∀ a ∈ As3 i, H0 a = none) ∧ Post X.K cm W F0 H0 D (forGo h b (ds.drop (i + 1)) ρ2), fun σ' H' z => ⟨ds.length - (i + 1), by omega, rfl, hlt, z⟩, fun v H' hy => ?_⟩
    obtain ⟨F3, d, x3, ed, rd⟩ := hJ.yld i F2 H2 v H' s2 rel2.fh rel2.cel hlt hy
    have edd : ds[i] = d := by rw [List.getElem?_eq_getElem hlt] at ed; exact Option.some.inj ed
    rw [List.drop_eq_getElem_cons hlt, edd, forGo] at q2
    split at q2
    · exact q2.elim
    rename_i ρ3 e3
    refine ⟨F3, ρ2, As2, d, ρ3, rel2.ext x3, rd, e3, fun σ4 As4 rel4 s4 _ _ => ?_⟩
    have x03 := x2.trans x3
    have n4 : ∀ i, ∀ a ∈ As4 i, H0 a = none := fun i a z => n2 i a (s4 i a z)
    -- F0, H0 stand for the entry; the settled part must keep F1: it is taken as the entry of the turn
    have bodyF : ∃ F0' : Hp, F0' = F3 := ⟨F3, rfl⟩
    refine ⟨F3, H0, ρ3, ⟨F3, As4, rel4, ⟨Same.refl F3, x03.h, rel4.fh, fun a o z w => by rw [z] at w; cases w⟩, n4⟩, ?_⟩
    have up : ∀ {ρ' σ' H''}, Sta X.K cm F3 H0 ρ' σ' H'' → ∃ F5 As5, Rel X.K cm F5 H'' σ' ρ' As5 ∧ Ext F0 H0 F5 H'' ∧ Same F1 F5 ∧ ∀ i, ∀ a ∈ As5 i, H0 a = none := fun {ρ' σ' H''} ⟨F5, As5, rel5, x5, n5⟩ =>
      ⟨F5, As5, rel5, ⟨x03.f.trans x5.f, x5.h, x5.fh, fun a o z w => by
        cases q : F3 a with
        | some u => exact x03.new a u q w
        | none => exact x5.new a o z q⟩, (s2.trans x3.f).trans x5.f, n5⟩
    cases hr : b ρ3 with
    | nx ρ' =>
      rw [hr] at q2
      exact fun σ' H'' s => by
        obtain ⟨F5, As5, rel5, x5, s5, n5⟩ := up s
        exact ⟨ρ', F5, As5, rel5, x5, s5, n5, q2⟩
    | cont ρ' =>
      rw [hr] at q2
      exact fun σ' H'' s => by
        obtain ⟨F5, As5, rel5, x5, s5, n5⟩ := up s
        exact ⟨ρ', F5, As5, rel5, x5, s5, n5, q2⟩
    | brk ρ' =>
      rw [hr] at q2
      exact fun σ' H'' s => by
        obtain ⟨F5, As5, rel5, x5, s5, n5⟩ := up s
        exact q2 σ' H'' ⟨F5, As5, rel5, x5, n5⟩
    | ret sv =>
      rw [hr] at q2
      exact fun v F' H'' A x5 r nd nA => q2 v F' H'' A ⟨x03.f.trans x5.f, x5.h, x5.fh, fun a o z w => by
        cases q : F3 a with
        | some u => exact x03.new a u q w
        | none => exact x5.new a o z q⟩ r nd nA
    | exc nm fs xs =>
      rw [hr] at q2
      exact fun σ' => by
        obtain ⟨z1, z2⟩ := q2 σ'
        have lift : ∀ {F' H''}, Ext F3 H0 F' H'' → Ext F0 H0 F' H'' := fun {F' H''} x5 => ⟨x03.f.trans x5.f, x5.h, x5.fh, fun a o z w => by
          cases q : F3 a with
          | some u => exact x03.new a u q w
          | none => exact x5.new a o z q⟩
        exact ⟨fun hn F' H'' x5 => z1 hn F' H'' (lift x5), fun hn F' H'' d vs x5 => z2 hn F' H'' d vs (lift x5)⟩
    | bad =>
      rw [hr] at q2
      exact q2.elim
  · have ei : i = ds.length := by omega
    subst ei
    rw [List.drop_length, forGo] at q2
    exact .inl ⟨hJ.stop _ F2 H2 s2 rel2.fh rel2.cel (Nat.le_refl _), q2 σ2 H2 ⟨F2, As2, rel2, x2, n2⟩⟩
end
/-! ### an object is locked, and let go -/
structure Tr (K : PySem.W.Frag) (F H F' H' : Hp) : Prop where
  sT : ∀ a vs, SqT K F a vs → SqT K F' a vs
  sL : ∀ a vs, SqL K F a vs → SqL K F' a vs
  lL : ∀ a vs, Rd F a (.lst vs) → Rd F' a (.lst vs)
  dD : ∀ a vs, Rd F a (.dK vs) → Rd F' a (.dK vs)
  iN : ∀ a C dx fvs, F a = some (.ins C dx fvs) → F' a = some (.ins C dx fvs)
  hn : ∀ a, F a = none → F' a = none
  hH : ∀ a o, F a = none → H a = some o → H' a = some o
  fh : Same F' H'
  hS : ∀ a, (∃ o, H a = some o) → ∃ o, H' a = some o
section
variable {K : PySem.W.Frag} {cm : CM} {F H F' H' : Hp}
mutual
theorem R.tr (t : Tr K F H F' H') : ∀ {v : V} {x : Dat}, R K cm F v x → R K cm F' v x
  | _, _, .non => .non
  | _, _, .bl b => .bl b
  | _, _, .int i => .int i
  | _, _, .str x => .str x
  | _, _, .tup h r => .tup (t.sT _ _ h) (Rs.tr t r)
  | _, _, .lst h r => .lst (t.lL _ _ h) (Rs.tr t r)
  | _, _, .dct h k r => .dct (t.dD _ _ h) k (Rs.tr t r)
  | _, _, .obj h k r => .obj (t.iN _ _ _ _ h) k (Rs.tr t r)
  | _, _, .scr h r => .scr (t.sL _ _ h) (Rs.tr t r)
  | _, _, .cel h => .cel h
theorem Rs.tr (t : Tr K F H F' H') : ∀ {vs : List V} {xs : List Dat}, Rs K cm F vs xs → Rs K cm F' vs xs
  | _, _, .nil => .nil
  | _, _, .cons r s => .cons (R.tr t r) (Rs.tr t s)
end
mutual
theorem RO.tr (t : Tr K F H F' H') : ∀ {v : V} {x : SV} {A : List Addr}, RO K cm F H v x A → RO K cm F' H' v x A
  | _, _, _, .fro r => .fro (r.tr t)
  | _, _, _, .ol n h r => .ol (t.hn _ n) (t.hH _ _ n h) (ROs.tr t r)
  | _, _, _, .od n h k r => .od (t.hn _ n) (t.hH _ _ n h) k (ROs.tr t r)
  | _, _, _, .oo n h k r => .oo (t.hn _ n) (t.hH _ _ n h) k (ROs.tr t r)
  | _, _, _, .tp n h r => .tp (t.hn _ n) (t.hH _ _ n h) (ROs.tr t r)
theorem ROs.tr (t : Tr K F H F' H') : ∀ {vs : List V} {xs : List SV} {A : List Addr}, ROs K cm F H vs xs A → ROs K cm F' H' vs xs A
  | _, _, _, .nil => .nil
  | _, _, _, .cons r s => .cons (RO.tr t r) (ROs.tr t s)
end
theorem Cells.tr (t : Tr K F H F' H') (cl : Cells K cm F H) : Cells K cm F' H' := ⟨fun k c h => by
  obtain ⟨a, h1, ho, h2⟩ := cl.at_ k c h
  refine ⟨a, h1, t.hS _ ho, fun hc => ?_⟩
  obtain ⟨n2, h3⟩ := h2 hc
  refine ⟨t.hn _ n2, ?_⟩
  cases h3 with
  | lst q r => exact .lst (t.hH _ _ n2 q) (r.tr t)
  | dct q k r => exact .dct (t.hH _ _ n2 q) k (r.tr t)
  | obj q k r => exact .obj (t.hH _ _ n2 q) k (r.tr t)
  | err q => exact .err (t.hH _ _ n2 q), cl.inj, cl.dom⟩
theorem Rel.tr {σ : L2.St} {ρ : Rho} {As : Nat → List Addr} (t : Tr K F H F' H') (r : Rel K cm F H σ ρ As) : Rel K cm F' H' σ ρ As :=
  ⟨r.len, t.fh, fun i sv h => by
    obtain ⟨v, h1, h2⟩ := r.at_ i sv h
    exact ⟨v, h1, h2.tr t⟩, r.nd, r.sep, fun i a h => by
    obtain ⟨n, o, q⟩ := r.own i a h
    exact ⟨t.hn _ n, o, t.hH _ _ n q⟩, r.cel.tr t, r.out⟩
theorem tr_lock {d : Addr} {kvs : List (Key × V)} (o : Obj) (e : Same F H) (hd : F d = some (.dK kvs)) : Tr K F H (upd F d (.frz o (.dK kvs))) (upd H d (.frz o (.dK kvs))) where
  sT := fun a vs h => by
    rcases h with (h | ⟨o', h⟩) | h
    · exact .inl (.inl (by rw [upd_ne (fun z => by rw [z, hd] at h; cases h)]; exact h))
    · exact .inl (.inr ⟨o', by rw [upd_ne (fun z => by rw [z, hd] at h; cases h)]; exact h⟩)
    · exact .inr h
  sL := fun a vs h => by
    rcases h with (h | ⟨o', h⟩) | h
    · exact .inl (.inl (by rw [upd_ne (fun z => by rw [z, hd] at h; cases h)]; exact h))
    · exact .inl (.inr ⟨o', by rw [upd_ne (fun z => by rw [z, hd] at h; cases h)]; exact h⟩)
    · exact .inr h
  lL := fun a vs h => by
    rcases h with h | ⟨o', h⟩
    · exact .inl (by rw [upd_ne (fun z => by rw [z, hd] at h; cases h)]; exact h)
    · exact .inr ⟨o', by rw [upd_ne (fun z => by rw [z, hd] at h; cases h)]; exact h⟩
  dD := fun a vs h => by
    by_cases z : a = d
    · subst z
      rcases h with h | ⟨o', h⟩
      · rw [hd] at h
        cases h
        exact .inr ⟨o, upd_same⟩
      · rw [hd] at h
        cases h
    · rcases h with h | ⟨o', h⟩
      · exact .inl (by rw [upd_ne z]; exact h)
      · exact .inr ⟨o', by rw [upd_ne z]; exact h⟩
  iN := fun a C dx fvs h => by rw [upd_ne (fun z => by rw [z, hd] at h; cases h)]; exact h
  hn := fun a h => by rw [upd_ne (fun z => by rw [z, hd] at h; cases h)]; exact h
  hH := fun a o' h q => by rw [upd_ne (fun z => by rw [z, hd] at h; cases h)]; exact q
  fh := fun a o' h => by
    by_cases z : a = d
    · subst z
      rw [upd_same] at h ⊢
      exact h
    · rw [upd_ne z] at h ⊢
      exact e _ _ h
  hS := fun a ⟨o', h⟩ => by
    by_cases z : a = d
    · exact ⟨_, by rw [z, upd_same]⟩
    · exact ⟨o', by rw [upd_ne z]; exact h⟩
theorem tr_free {d : Addr} {o : Obj} {kvs : List (Key × V)} (e : Same F H) (hd : F d = some (.frz o (.dK kvs))) : Tr K F H (upd F d (.dK kvs)) (upd H d (.dK kvs)) where
  sT := fun a vs h => by
    rcases h with (h | ⟨o', h⟩) | h
    · exact .inl (.inl (by rw [upd_ne (fun z => by rw [z, hd] at h; cases h)]; exact h))
    · exact .inl (.inr ⟨o', by rw [upd_ne (fun z => by rw [z, hd] at h; cases h)]; exact h⟩)
    · exact .inr h
  sL := fun a vs h => by
    rcases h with (h | ⟨o', h⟩) | h
    · exact .inl (.inl (by rw [upd_ne (fun z => by rw [z, hd] at h; cases h)]; exact h))
    · exact .inl (.inr ⟨o', by rw [upd_ne (fun z => by rw [z, hd] at h; cases h)]; exact h⟩)
    · exact .inr h
  lL := fun a vs h => by
    rcases h with h | ⟨o', h⟩
    · exact .inl (by rw [upd_ne (fun z => by rw [z, hd] at h; cases h)]; exact h)
    · exact .inr ⟨o', by rw [upd_ne (fun z => by rw [z, hd] at h; cases h)]; exact h⟩
  dD := fun a vs h => by
    by_cases z : a = d
    · subst z
      rcases h with h | ⟨o', h⟩
      · rw [hd] at h
        cases h
      · rw [hd] at h
        cases h
        exact .inl upd_same
    · rcases h with h | ⟨o', h⟩
      · exact .inl (by rw [upd_ne z]; exact h)
      · exact .inr ⟨o', by rw [upd_ne z]; exact h⟩
  iN := fun a C dx fvs h => by rw [upd_ne (fun z => by rw [z, hd] at h; cases h)]; exact h
  hn := fun a h => by rw [upd_ne (fun z => by rw [z, hd] at h; cases h)]; exact h
  hH := fun a o' h q => by rw [upd_ne (fun z => by rw [z, hd] at h; cases h)]; exact q
  fh := fun a o' h => by
    by_cases z : a = d
    · subst z
      rw [upd_same] at h ⊢
      exact h
    · rw [upd_ne z] at h ⊢
      exact e _ _ h
  hS := fun a ⟨o', h⟩ => by
    by_cases z : a = d
    · exact ⟨_, by rw [z, upd_same]⟩
    · exact ⟨o', by rw [upd_ne z]; exact h⟩
/-! ### dicts, walked -/
def kyD : Key → Dat
  | .inl i => .int i
  | .inr x => .str x
theorem kyD_R (k : Key) : R K cm F (kV k) (kyD k) := by
  cases k with
  | inl i => exact .int i
  | inr x => exact .str x
def itemsD : List Key → List Dat → List Dat
  | k :: ks, x :: xs => .tup [kyD k, x] :: itemsD ks xs
  | _, _ => []
theorem itemsD_len : ∀ {ks : List Key} {xs : List Dat}, ks.length = xs.length → (itemsD ks xs).length = ks.length
  | [], _, _ => rfl
  | k :: ks, [], h => by cases h
  | k :: ks, x :: xs, h => by rw [itemsD, List.length_cons, List.length_cons, itemsD_len (by simpa using h)]
theorem itemsD_get : ∀ {kvs : List (Key × V)} {xs : List Dat} {i : Nat} {k : Key} {v : V}, Rs K cm F (kvs.map (·.2)) xs → kvs[i]? = some (k, v) → ∃ x, (itemsD (kvs.map (·.1)) xs)[i]? = some (.tup [kyD k, x]) ∧ R K cm F v x
  | [], _, _, _, _, _, h => by simp at h
  | (k, v) :: kvs, [], _, _, _, r, _ => by cases r
  | (k, v) :: kvs, x :: xs, 0, _, _, .cons r t, h => by
    simp at h
    obtain ⟨rfl, rfl⟩ := h
    exact ⟨x, rfl, r⟩
  | (k, v) :: kvs, x :: xs, i + 1, _, _, .cons r t, h => by
    obtain ⟨y, h1, h2⟩ := itemsD_get (i := i) t (by simpa using h)
    exact ⟨y, by rw [List.map_cons, itemsD]; simpa using h1, h2⟩
theorem itf_items {d : Addr} {o : Obj} {kvs : List (Key × V)} {xs : List Dat} (h : F d = some (.frz o (.dK kvs))) (r : Rs K cm F (kvs.map (·.2)) xs) : ItfS K cm (Iti d o kvs) F (itemsD (kvs.map (·.1)) xs) where
  stop := fun i F' H e1 e2 hi => by
    rw [itemsD_len (by rw [List.length_map, ← r.length, List.length_map]), List.length_map] at hi
    exact ⟨e2 _ _ (e1 _ _ h), hi⟩
  go := fun i F' H e1 e2 hi => by
    rw [itemsD_len (by rw [List.length_map, ← r.length, List.length_map]), List.length_map] at hi
    exact ⟨e2 _ _ (e1 _ _ h), hi⟩
  yld := fun i F' H x H' e1 e2 hi hy => by
    obtain ⟨T, k, v, h1, rfl, h2, rfl⟩ := hy
    obtain ⟨y, h3, h4⟩ := itemsD_get r h1
    have n : F' T = none := e2.free h2
    refine ⟨upd F' T (.tup [kV k, v]), _, Ext.laid e2 h2, h3, .tup (.inl (.inl upd_same)) (.cons (kyD_R k) (.cons ((h4.mono e1).mono (same_new n)) .nil))⟩
theorem itf_keys {d : Addr} {o : Obj} {kvs : List (Key × V)} (h : F d = some (.frz o (.dK kvs))) : ItfS K cm (Itk d o kvs) F ((kvs.map (·.1)).map kyD) where
  stop := fun i F' H e1 e2 hi => by
    rw [List.length_map, List.length_map] at hi
    exact ⟨e2 _ _ (e1 _ _ h), hi⟩
  go := fun i F' H e1 e2 hi => by
    rw [List.length_map, List.length_map] at hi
    exact ⟨e2 _ _ (e1 _ _ h), hi⟩
  yld := fun i F' H x H' e1 e2 hi hy => by
    obtain ⟨rfl, k, v, h1, rfl⟩ := hy
    exact ⟨F', kyD k, Ext.refl e2, by rw [List.getElem?_map, List.getElem?_map, h1]; rfl, kyD_R k⟩
end
end
end Pq

namespace Pq
open PySem PySem.Spec PyProof.Rows L2
noncomputable section
/-! ### places that are read as they stand -/
def tAt (P : L2.St → Hp → V → Prop) : TE := fun σ H Q => ∃ v, P σ H v ∧ Q v H
structure PtOk (K : PySem.W.Frag) (cm : CM) (P : L2.St → Hp → V → Prop) (f : Rho → Option Dat) : Prop where
  rd : ∀ {F H : Hp} {σ : L2.St} {ρ : Rho} {As : Nat → List Addr} {d : Dat}, Rel K cm F H σ ρ As → f ρ = some d → ∃ v, P σ H v ∧ R K cm F v d
  lk : ∀ {σ : L2.St} {H : Hp} {v : V} {p : Addr} {kvs : List (Key × V)} (w : HO), P σ H v → H p = some (.dK kvs) → P σ (upd H p w) v
section
variable {X : Cx} {cm : CM} {W : L2.WX} {e a b : Expr} {st : Stmt} {pos apos cpos : Pos}
def Pvar (i : Nat) : L2.St → Hp → V → Prop := fun σ _ v => σ[i]? = some (some v)
theorem pt_v {i : Nat} (h : PE X e (tVar i)) : PE X e (tAt (Pvar i)) := h
theorem ok_v (K : PySem.W.Frag) (i : Nat) : PtOk K cm (Pvar i) (rd i) := ⟨fun rel h => rel.rd h, fun w h _ => h⟩
def Pfld (K : PySem.W.Frag) (i : Nat) (f : Str) : L2.St → Hp → V → Prop := fun σ H v => ∃ a C dx fs, σ[i]? = some (some (.ref a)) ∧ H a = some (.ins C dx fs) ∧ Cls K C ∧ NoAttr K C f ∧ fs.lookup f = some v
theorem pt_f {i : Nat} {f : Str} (h : PE X a (tVar i)) (hb : attributeBase a f X.env (eval a X.env) = eval a X.env := by rfl) : PE X (.Attribute a f pos) (tAt (Pfld X.K i f)) := PE.imp (pe_fld h hb) fun σ H Q ⟨v, ⟨p, C, dx, fs, h1, h2, h3, h4, h5⟩, q⟩ => ⟨.ref p, h1, p, C, dx, fs, v, rfl, h2, h3, h4, h5, q⟩
theorem ok_f {K : PySem.W.Frag} {cs : List Str} {f : Str} (i : Nat) (hc : ∀ c ∈ cs, Cls K (cm c) ∧ NoAttr K (cm c) f) : PtOk K cm (Pfld K i f) (un (fldD cs f) (rd i)) where
  rd := fun rel h => by
    obtain ⟨x, e1, hf⟩ := bind_some h
    obtain ⟨v, h1, r1⟩ := rel.rd e1
    unfold fldD at hf
    split at hf
    · split at hf
      · rename_i c fs xs hmem
        obtain ⟨p, dx, fvs, rfl, h2, h3, h4⟩ := r1.obj_inv
        rw [← h3] at hf
        obtain ⟨w, q1, q2⟩ := look_fld h4 hf
        exact ⟨w, ⟨p, _, dx, fvs, h1, rel.fh _ _ h2, (hc c hmem).1, (hc c hmem).2, q1⟩, q2⟩
      · cases hf
    · cases hf
  lk := fun w ⟨a, C, dx, fs, h1, h2, h3⟩ h => ⟨a, C, dx, fs, h1, by rw [upd_ne (fun z => by rw [z, h] at h2; cases h2)]; exact h2, h3⟩
/-! ### locking, and letting go -/
def keepN (H0 H : Hp) : Hp := fun b => match H0 b with
  | none => none
  | some _ => H b
theorem keepN_none {H0 H H' : Hp} {b : Addr} (e : Same H0 H) (hn : ∀ a, H' a = none → H a = none) (h : keepN H0 H' b = none) : H0 b = none := by
  unfold keepN at h
  cases q : H0 b with
  | none => rfl
  | some o =>
    rw [q] at h
    have := hn b h
    rw [e _ _ q] at this
    cases this
theorem upd_none {H : Hp} {p : Addr} {w : HO} {o : HO} (hp : H p = some o) : ∀ a, upd H p w a = none → H a = none := fun a h => by
  by_cases z : a = p
  · subst z; rw [upd_same] at h; cases h
  · rw [upd_ne z] at h; exact h
theorem unlock_ext {K : PySem.W.Frag} {F0 H0 F H F1 H1 : Hp} {p : Addr} {o : Obj} {kvs : List (Key × V)} (x : Ext F0 H0 F H) (g : F p = some (.dK kvs)) (x1 : Ext (upd F p (.frz o (.dK kvs))) (keepN H0 (upd H p (.frz o (.dK kvs)))) F1 H1) :
    Ext F0 H0 (upd F1 p (.dK kvs)) (upd H1 p (.dK kvs)) ∧ H1 p = some (.frz o (.dK kvs)) ∧ Tr K F1 H1 (upd F1 p (.dK kvs)) (upd H1 p (.dK kvs)) := by
  have gH := x.fh _ _ g
  have g1 : F1 p = some (.frz o (.dK kvs)) := x1.f _ _ upd_same
  have t := tr_free (K := K) x1.fh g1
  refine ⟨⟨fun a u h => ?_, fun a u h => ?_, t.fh, fun a u h n => ?_⟩, x1.fh _ _ g1, t⟩
  · by_cases z : a = p
    · subst z
      rw [upd_same, ← x.f _ _ h, g]
    · rw [upd_ne z]
      exact x1.f _ _ (by rw [upd_ne z]; exact x.f _ _ h)
  · by_cases z : a = p
    · subst z
      rw [upd_same, ← x.h _ _ h, gH]
    · rw [upd_ne z]
      refine x1.h _ _ ?_
      unfold keepN
      rw [h]
      show upd H p _ a = _
      rw [upd_ne z]
      exact x.h _ _ h
  · by_cases z : a = p
    · subst z
      exact x.new _ _ g n
    · rw [upd_ne z] at h
      cases q : F a with
      | some w => exact x.new a w q n
      | none =>
        have := x1.new a u h (by rw [upd_ne z]; exact q)
        exact keepN_none x.h (upd_none gH) this
theorem lock_ext (K : PySem.W.Frag) {F0 H0 F H : Hp} {p : Addr} {o : Obj} {kvs : List (Key × V)} (x : Ext F0 H0 F H) (g : F p = some (.dK kvs)) : Ext (upd F p (.frz o (.dK kvs))) (keepN H0 (upd H p (.frz o (.dK kvs)))) (upd F p (.frz o (.dK kvs))) (upd H p (.frz o (.dK kvs))) :=
  ⟨Same.refl _, fun a u h => by
    unfold keepN at h
    split at h
    · cases h
    · exact h, (tr_lock (K := K) o x.fh g).fh, fun a u h n => by rw [h] at n; cases n⟩
/-! ### for .. in a dict, d.keys(), d.items() -/
def noE (r : Res) : Res := match r with
  | .exc _ _ _ => .bad
  | r => r
def walkD (L : List Key → List Dat → List Dat) (f : Rho → Option Dat) (ρ : Rho) : Option (List Dat) := match f ρ with
  | some (.dct ks xs) => some (L ks xs)
  | _ => none
def forDS (L : List Key → List Dat → List Dat) (f : Rho → Option Dat) (h : Dat → Rho → Option Rho) (b : Rho → Res) : Rho → Res := fun ρ => noE (forS (walkD L f) h b ρ)
theorem p_forD {wi : TI} {tg iter : Expr} {body : List Stmt} {P : L2.St → Hp → V → Prop} {f : Rho → Option Dat} {h : Dat → Rho → Option Rho} {is : List Nat} {b : Rho → Res} (J : Addr → Obj → List (Key × V) → It) (L : List Key → List Dat → List Dat)
    (hp : PassesOwn (model X.prog X.w) X.A X.env X.xe) (hc : X.calm = true) (hi : PI X tg iter wi) (ok : PtOk X.K cm P f)
    (hw : ∀ σ H p o kvs (Rr : It → Hp → Prop), P σ H (.ref p) → H p = some (.frz o (.dK kvs)) → Rr (J p o kvs) H → wi σ H Rr)
    (hJ : ∀ {F : Hp} {p : Addr} {o : Obj} {kvs : List (Key × V)} {xs : List Dat}, F p = some (.frz o (.dK kvs)) → Rs X.K cm F (kvs.map (·.2)) xs → ItfS X.K cm (J p o kvs) F (L (kvs.map (·.1)) xs))
    (hg : PG X tg (ofG X.K cm h is)) (hb : PSs X body (ofS X.K cm W b)) (hs : ∀ x, foldedSetIterable iter X.env x = pure x := by intro _; rfl) : PS X (.For tg iter body [] pos) (ofS X.K cm W (forDS L f h b)) := by
  have free := ps_for (pos := pos) hp hc hi hg hb hs
  refine ⟨fun pins s σ H D I ⟨F0, H0, ρ, ⟨F, As, rel, x, n⟩, q⟩ => ?_⟩
  unfold forDS forS walkD at q
  cases hf : f ρ with
  | none => rw [hf] at q; exact q.elim
  | some d =>
  rw [hf] at q
  cases d with
  | dct ks xs =>
    obtain ⟨v, hv, r⟩ := ok.rd rel hf
    obtain ⟨p, kvs, rfl, g, ek, z⟩ := r.dct_inv
    subst ek
    have q0 : Post X.K cm W F0 H0 D (noE (forGo h b (L (kvs.map (·.1)) xs) ρ)) := q
    rcases g with g | ⟨o, g⟩
    · refine (ps_lock free).run pins s σ H D I ⟨p, .dK kvs, rel.fh _ _ g, trivial, fun od => ?_⟩
      have t := tr_lock (K := X.K) od rel.fh g
      have gH := rel.fh _ _ g
      refine for_core (F0 := upd F p (.frz od (.dK kvs))) (H0 := keepN H0 (upd H p (.frz od (.dK kvs)))) (rel.tr t) (lock_ext X.K x g) (fun i a ha => ?_) ?_ (fun Rr hR => hw σ _ p od kvs Rr (ok.lk _ hv gH) upd_same (hR _ _ _ (Ext.refl t.fh) (hJ (by rw [upd_same]) (z.tr t)).weak))
      · unfold keepN
        rw [n i a ha]
      · have up : ∀ {F1 H1}, Ext (upd F p (.frz od (.dK kvs))) (keepN H0 (upd H p (.frz od (.dK kvs)))) F1 H1 → Ext F0 H0 (upd F1 p (.dK kvs)) (upd H1 p (.dK kvs)) ∧ H1 p = some (.frz od (.dK kvs)) ∧ Tr X.K F1 H1 (upd F1 p (.dK kvs)) (upd H1 p (.dK kvs)) := fun x1 => unlock_ext x g x1
        have nn : ∀ a, keepN H0 (upd H p (.frz od (.dK kvs))) a = none → H0 a = none := fun a ha => keepN_none x.h (upd_none gH) ha
        have sta : ∀ {ρ' σ' H1}, Sta X.K cm (upd F p (.frz od (.dK kvs))) (keepN H0 (upd H p (.frz od (.dK kvs)))) ρ' σ' H1 → H1 p = some (.frz od (.dK kvs)) ∧ Sta X.K cm F0 H0 ρ' σ' (upd H1 p (.dK kvs)) := fun ⟨F1, As1, rel1, x1, n1⟩ => by
          obtain ⟨u1, u2, u3⟩ := up x1
          exact ⟨u2, _, As1, rel1.tr u3, u1, fun i a ha => nn a (n1 i a ha)⟩
        cases hr : forGo h b (L (kvs.map (·.1)) xs) ρ with
        | nx ρ' => rw [hr] at q0; exact fun σ' H1 s => ⟨(sta s).1, q0 _ _ (sta s).2⟩
        | brk ρ' => rw [hr] at q0; exact fun σ' H1 s => ⟨(sta s).1, q0 _ _ (sta s).2⟩
        | cont ρ' => rw [hr] at q0; exact fun σ' H1 s => ⟨(sta s).1, q0 _ _ (sta s).2⟩
        | ret sv =>
          rw [hr] at q0
          exact fun v F1 H1 A x1 r1 nd nA => by
            obtain ⟨u1, u2, u3⟩ := up x1
            exact ⟨u2, q0 v _ _ A u1 (r1.tr u3) nd fun a ha => nn a (nA a ha)⟩
        | exc nm fs xs => rw [hr] at q0; exact q0.elim
        | bad => rw [hr] at q0; exact q0.elim
    · refine free.run pins s σ H D I ?_
      refine for_core rel x n ?_ (fun Rr hR => hw σ _ p o kvs Rr hv (rel.fh _ _ g) (hR _ _ _ (Ext.refl rel.fh) (hJ g z).weak))
      cases hr : forGo h b (L (kvs.map (·.1)) xs) ρ with
      | exc nm fs xs => rw [hr] at q0; exact q0.elim
      | nx ρ' => rw [hr] at q0; exact q0
      | brk ρ' => rw [hr] at q0; exact q0
      | cont ρ' => rw [hr] at q0; exact q0
      | ret sv => rw [hr] at q0; exact q0
      | bad => rw [hr] at q0; exact q0
  | _ => exact q.elim
def Lkey (ks : List Key) (_ : List Dat) : List Dat := ks.map kyD
theorem hw_items {P : L2.St → Hp → V → Prop} : ∀ σ H p o kvs (Rr : It → Hp → Prop), P σ H (.ref p) → H p = some (.frz o (.dK kvs)) → Rr (Iti p o kvs) H → iItems (tAt P) σ H Rr := fun σ H p o kvs Rr h1 h2 h3 => ⟨.ref p, h1, p, o, kvs, rfl, h2, h3⟩
theorem hw_keysM {P : L2.St → Hp → V → Prop} : ∀ σ H p o kvs (Rr : It → Hp → Prop), P σ H (.ref p) → H p = some (.frz o (.dK kvs)) → Rr (Itk p o kvs) H → iKeysM (tAt P) σ H Rr := fun σ H p o kvs Rr h1 h2 h3 => ⟨.ref p, h1, p, o, kvs, rfl, h2, h3⟩
theorem hw_keys {P : L2.St → Hp → V → Prop} : ∀ σ H p o kvs (Rr : It → Hp → Prop), P σ H (.ref p) → H p = some (.frz o (.dK kvs)) → Rr (Itk p o kvs) H → iKeys (tAt P) σ H Rr := fun σ H p o kvs Rr h1 h2 h3 => ⟨.ref p, h1, p, o, rfl, .inl ⟨kvs, h2, h3⟩⟩
theorem p_forItems {elts : List Expr} {kk : Nat} {tpos : Pos} {body : List Stmt} {P : L2.St → Hp → V → Prop} {f : Rho → Option Dat} {h : Dat → Rho → Option Rho} {is : List Nat} {b : Rho → Res} (hp : PassesOwn (model X.prog X.w) X.A X.env X.xe) (hc : X.calm = true) (hd : PE X a (tAt P)) (ok : PtOk X.K cm P f)
    (hg : PG X (.Tuple elts kk tpos) (ofG X.K cm h is)) (hb : PSs X body (ofS X.K cm W b)) (hbase : attributeBase a "items" X.env (eval a X.env) = eval a X.env := by rfl) (hline : (apos.endLine == cpos.line) = true := by rfl) (hs : ∀ x, foldedSetIterable (.Call (.Attribute a "items" apos) [] [] cpos) X.env x = pure x := by intro _; rfl) :
    PS X (.For (.Tuple elts kk tpos) (.Call (.Attribute a "items" apos) [] [] cpos) body [] pos) (ofS X.K cm W (forDS itemsD f h b)) :=
  p_forD Iti itemsD hp hc (pi_items hd hbase hline) ok hw_items (fun h1 h2 => itf_items h1 h2) hg hb hs
theorem p_forKeys {tg : Expr} {body : List Stmt} {P : L2.St → Hp → V → Prop} {f : Rho → Option Dat} {h : Dat → Rho → Option Rho} {is : List Nat} {b : Rho → Res} (hp : PassesOwn (model X.prog X.w) X.A X.env X.xe) (hc : X.calm = true) (hd : PE X a (tAt P)) (ok : PtOk X.K cm P f)
    (hg : PG X tg (ofG X.K cm h is)) (hb : PSs X body (ofS X.K cm W b)) (hs : ∀ x, foldedSetIterable a X.env x = pure x := by intro _; rfl) :
    PS X (.For tg a body [] pos) (ofS X.K cm W (forDS Lkey f h b)) :=
  p_forD Itk Lkey hp hc (pi_keys hd) ok hw_keys (fun h1 h2 => itf_keys h1) hg hb hs
/-! ### [.. for .. in a dict ..] -/
def lcDL (L : List Key → List Dat → List Dat) (fd : Rho → Option Dat) (vs : List Nat) (h : Dat → Rho → Option Rho) (t : Rho → Option Bool) (f : Rho → Option Dat) : Rho → Option (List Dat) := lcL (walkD L fd) vs h t f
theorem lcD_run {wi : TI} {P : L2.St → Hp → V → Prop} {fd : Rho → Option Dat} {vs is : List Nat} {h : Dat → Rho → Option Rho} {t : Rho → Option Bool} {f : Rho → Option Dat} (J : Addr → Obj → List (Key × V) → It) (L : List Key → List Dat → List Dat) (hsub : ∀ i ∈ is, i ∈ vs) (ok : PtOk X.K cm P fd)
    (hw : ∀ σ H p o kvs (Rr : It → Hp → Prop), P σ H (.ref p) → H p = some (.frz o (.dK kvs)) → Rr (J p o kvs) H → wi σ H Rr)
    (hJ : ∀ {F : Hp} {p : Addr} {o : Obj} {kvs : List (Key × V)} {xs : List Dat}, F p = some (.frz o (.dK kvs)) → Rs X.K cm F (kvs.map (·.2)) xs → ItfS X.K cm (J p o kvs) F (L (kvs.map (·.1)) xs))
    (pe : PE X e (tLc wi (ofG X.K cm h is) (ofT X.K cm t) (ofE X.K cm f) vs)) : PE X e (ofO X.K cm (fun ρ => (lcDL L fd vs h t f ρ).map fun ds => .ol (ds.map SV.fro))) := ⟨fun pins s σ H Q I ⟨F, ρ, As, sv, rel, hf, k⟩ => by
  obtain ⟨out, e1, rfl⟩ := map_some' hf
  unfold lcDL lcL walkD at e1
  obtain ⟨ds, e2, e1⟩ := bind_some e1
  split at e2
  case h_2 => cases e2
  rename_i ks xs e3
  cases e2
  split at e1
  case isFalse => cases e1
  rename_i hz
  obtain ⟨v, hv, r⟩ := ok.rd rel e3
  obtain ⟨p, kvs, rfl, g, ek, z⟩ := r.dct_inv
  subst ek
  rcases g with g | ⟨o, g⟩
  · refine (pe_lock pe).run pins s σ H Q I ⟨p, .dK kvs, rel.fh _ _ g, trivial, fun od => ?_⟩
    have tr := tr_lock (K := X.K) od rel.fh g
    have gH := rel.fh _ _ g
    refine lc_run0 hsub (rel.tr tr) hz e1 (fun Rr hR => hw σ _ p od kvs Rr (ok.lk _ hv gH) upd_same (hR _ _ _ (Ext.refl tr.fh) (hJ (by rw [upd_same]) (z.tr tr)).weak)) fun F1 H1 Dd acc x1 n1 n2 g1 r1 => ?_
    have ek : keepN H (upd H p (.frz od (.dK kvs))) = upd H p (.frz od (.dK kvs)) := funext fun b => by
      unfold keepN
      split
      · rename_i hb
        rw [upd_ne (fun z => by rw [z, gH] at hb; cases hb)]
        exact hb.symm
      · rfl
    obtain ⟨u1, u2, u3⟩ := unlock_ext (K := X.K) (o := od) (Ext.refl rel.fh) g (by rw [ek]; exact x1)
    have hD : H Dd = none := upd_none gH _ n2
    have hpD : Dd ≠ p := fun z => by rw [z, gH] at hD; cases hD
    have ro : RO X.K cm F1 H1 (.ref Dd) (.ol (out.map SV.fro)) [Dd] := .ol n1 g1 (ros_fro r1)
    exact ⟨u2, k _ _ _ [Dd] u1 (ro.tr u3) (by simp) (by simpa using hD)⟩
  · refine pe.run pins s σ H Q I ?_
    exact lc_run0 hsub rel hz e1 (fun Rr hR => hw σ _ p o kvs Rr hv (rel.fh _ _ g) (hR _ _ _ (Ext.refl rel.fh) (hJ g z).weak)) fun F1 H1 Dd acc x1 n1 n2 g1 r1 => k _ F1 H1 [Dd] x1 (.ol n1 g1 (ros_fro r1)) (by simp) (by simpa using n2)⟩
theorem o_to_e {f : Rho → Option (List Dat)} (h : PE X e (ofO X.K cm (fun ρ => (f ρ).map fun ds => .ol (ds.map SV.fro)))) : PE X e (ofE X.K cm (fun ρ => (f ρ).map Dat.lst)) := ⟨fun pins s σ H Q I ⟨F, ρ, As, d, rel, hf, k⟩ => by
  obtain ⟨ds, e1, rfl⟩ := map_some' hf
  refine h.run pins s σ H Q I ⟨F, ρ, As, _, rel, by show (f ρ).map _ = _; rw [e1]; rfl, fun v F' H' A x r nd nA => ?_⟩
  have hF : ∀ a ∈ A, F' a = none := fun a h => (r.own a h).1
  refine k v (plus F' H' A) H' ⟨x.f.trans (plus_same hF), x.h, plus_le x.fh, fun a o z n => ?_⟩ ?_
  · by_cases q : a ∈ A
    · exact nA a q
    · rw [plus_out q] at z
      exact x.new a o z n
  · have := r.frz x.fh
    rw [frz, frzs_fro] at this
    exact this⟩
section
variable {elt tg iter : Expr} {ifs : List Expr} {scope : Scope} {own : List (Str × Nat)} {fd : Rho → Option Dat} {is : List Nat} {h : Dat → Rho → Option Rho} {t : Rho → Option Bool} {fe : Rho → Option Dat} {P : L2.St → Hp → V → Prop}
theorem o_lcK {vs : List Nat} (hv : own.map (·.2) = vs) (hc : X.calm = true) (hN : X.N.Nodup) (hd : PE X iter (tAt P)) (okp : PtOk X.K cm P fd) (ok : BlkOk X.N X.env.scope scope own) (hsub : ∀ i ∈ is, i ∈ own.map (·.2))
    (hg : ∀ (s : Shared) (H : Hp) (C : Addr) (cl : List (Str × Addr)) (fp : List Addr), PG (X.blk s H scope (compEnvC scope cl C X.env) fp) tg (ofG X.K cm h is)) (ht : ∀ (s : Shared) (H : Hp) (C : Addr) (cl : List (Str × Addr)) (fp : List Addr), PTs (X.blk s H scope (compEnvC scope cl C X.env) fp) ifs (ofT X.K cm t))
    (he : ∀ (s : Shared) (H : Hp) (C : Addr) (cl : List (Str × Addr)) (fp : List Addr), PE (X.blk s H scope (compEnvC scope cl C X.env) fp) elt (ofE X.K cm fe)) (hs : ∀ x, foldedSetIterable iter X.env x = pure x := by intro _; rfl) :
    PE X (.ListComp elt [⟨tg, iter, ifs, 0⟩] scope pos) (ofO X.K cm (fun ρ => (lcDL Lkey fd vs h t fe ρ).map fun ds => .ol (ds.map SV.fro))) := by
  subst hv
  exact lcD_run Itk Lkey hsub okp hw_keys (fun h1 h2 => itf_keys h1) (pe_lc hc hN (pi_keys hd) ok hg ht he hs)
theorem e_lcK {vs : List Nat} (hv : own.map (·.2) = vs) (hc : X.calm = true) (hN : X.N.Nodup) (hd : PE X iter (tAt P)) (okp : PtOk X.K cm P fd) (ok : BlkOk X.N X.env.scope scope own) (hsub : ∀ i ∈ is, i ∈ own.map (·.2))
    (hg : ∀ (s : Shared) (H : Hp) (C : Addr) (cl : List (Str × Addr)) (fp : List Addr), PG (X.blk s H scope (compEnvC scope cl C X.env) fp) tg (ofG X.K cm h is)) (ht : ∀ (s : Shared) (H : Hp) (C : Addr) (cl : List (Str × Addr)) (fp : List Addr), PTs (X.blk s H scope (compEnvC scope cl C X.env) fp) ifs (ofT X.K cm t))
    (he : ∀ (s : Shared) (H : Hp) (C : Addr) (cl : List (Str × Addr)) (fp : List Addr), PE (X.blk s H scope (compEnvC scope cl C X.env) fp) elt (ofE X.K cm fe)) (hs : ∀ x, foldedSetIterable iter X.env x = pure x := by intro _; rfl) :
    PE X (.ListComp elt [⟨tg, iter, ifs, 0⟩] scope pos) (ofE X.K cm (fun ρ => (lcDL Lkey fd vs h t fe ρ).map Dat.lst)) := o_to_e (o_lcK hv hc hN hd okp ok hsub hg ht he hs)
end
/-! ### name[k] = what is new -/
def setDO (i : Nat) (fk : Rho → Option Dat) (o : Rho → Option SV) : Rho → Res := fun ρ => match o ρ with
  | some sv => match (fk ρ).bind isK with
    | some k => match ρ[i]? with
      | some (some (.od ks xs)) => @ite _ (ks.length < sizeLine ∧ k ∉ ks) (Classical.propDecidable _) (.nx (ρ.set i (some (.od (ks ++ [k]) (xs ++ [sv]))))) .bad
      | _ => .bad
    | none => .bad
  | none => .bad
theorem p_setDO (i : Nat) {pos' : Pos} {fk : Rho → Option Dat} {o : Rho → Option SV} (hu : X.A.units + 1 < cLine) (hv : PE X e (tVar i)) (hk : PE X b (ofE X.K cm fk)) (ha : PE X a (ofO X.K cm o)) (hs : swapsWith a (some (.Subscript e b pos')) pos.line X.env = pure false := by rfl) :
    PS X (.Assign [.Subscript e b pos'] a pos) (ofS X.K cm W (setDO i fk o)) := PS.imp (ps_dput hu hv hk ha hs) fun D σ H ⟨F0, H0, ρ, ⟨F, As, rel, x, n⟩, q⟩ => by
  unfold setDO at q
  split at q
  case h_2 => exact q.elim
  rename_i sv e1
  split at q
  case h_2 => exact q.elim
  rename_i k ek
  obtain ⟨kd, e0, ek⟩ := bind_some ek
  split at q
  case h_2 => exact q.elim
  rename_i ks xs e2
  split at q
  case isFalse => exact q.elim
  rename_i hz
  obtain ⟨v0, h1, r1⟩ := rel.at_ i _ e2
  refine ⟨F, ρ, As, sv, rel, e1, fun w F1 H1 A x1 r2 ndA nA => ⟨v0, h1, F1, ρ, As, kd, rel.ext x1, e0, fun u F2 H2 x2 r3 => ?_⟩⟩
  have eu := isK_V r3 ek
  subst eu
  obtain ⟨p, kvs, B, rfl, eA, nF, hH, hks, rs⟩ := r1.od_inv
  have x12 := x1.trans x2
  have hH2 := x12.h _ _ hH
  have pA : p ∈ As i := by rw [eA]; exact List.mem_cons_self
  have hF2 := ext_none x12 hH nF
  have r22 := r2.ext x2
  have hany : ¬ (kvs.any fun kv => decide (kv.1 = k)) = true := fun z => by
    obtain ⟨kv, m1, m2⟩ := List.any_eq_true.mp z
    exact hz.2 (by rw [← hks]; exact List.mem_map.mpr ⟨kv, m1, of_decide_eq_true m2⟩)
  have e5 : putK kvs k w = kvs ++ [(k, w)] := if_neg hany
  refine ⟨p, _, rfl, DPut.k hH2 (by rw [← List.length_map (f := (·.1)), hks]; exact hz.1), ?_⟩
  have pB : p ∉ B := by
    have := rel.nd i
    rw [eA] at this
    exact (List.nodup_cons.mp this).1
  have pA2 : p ∉ A := fun z => by
    have := nA p z
    rw [hH] at this
    cases this
  have own : ∀ b ∈ A, F2 b = none ∧ ∃ o, H2 b = some o := fun b hb => r22.own b hb
  have rr : RO X.K cm F2 (upd H2 p (.dK (putK kvs k w))) (.ref p) (.od (ks ++ [k]) (xs ++ [sv])) (As i ++ A) := by
    rw [eA, e5]
    refine .od hF2 upd_same (by rw [List.map_append, hks]; rfl) ?_
    rw [List.map_append]
    have q1 := (rs.ext x12).out (o := .dK (kvs ++ [(k, w)])) pB
    have q2 := r22.out (o := .dK (kvs ++ [(k, w)])) pA2
    have q3 : ROs X.K cm F2 (upd H2 p (.dK (kvs ++ [(k, w)]))) [w] [sv] (A ++ []) := .cons q2 .nil
    rw [List.append_nil] at q3
    exact ROs.app q1 q3
  refine q _ _ ⟨F2, _, rel_grow rel x12 pA e2 h1 nA ndA own rr, ext_upd (x.trans x12) hF2 (n i p pA), fun j b hb => ?_⟩
  by_cases hj : j = i
  · simp only [if_pos hj] at hb
    rcases List.mem_append.mp hb with z | z
    · exact n i b z
    · exact x.h.free (nA b z)
  · simp only [if_neg hj] at hb
    exact n j b hb
end
end
end Pq

namespace Pq
open PySem PySem.Spec PyProof.Rows L2
noncomputable section
section
variable {X : Cx} {c : Str → Addr} {W : L2.WX} {e a b o : Expr} {es rest : List Expr} {st : Stmt} {pos pos' apos cpos : Pos} {fo fa fb : Sto → Rho → EZ Dat} {fs : Sto → Rho → EZ (List Dat)} {f g : Sto → Rho → EZ Bool}
/-! ### operators and comparisons, of what stands now -/
def opD (g : Dat → Dat → Option Dat) (z : Sto) (x y : Dat) : EZ Dat := match (sn z x).bind fun x' => (sn z y).bind fun y' => g x' y' with
  | some d => if tfl d = true then .ok z d else .bad
  | none => .bad
def opZ (g : Dat → Dat → Option Dat) (fa fb : Sto → Rho → EZ Dat) (z : Sto) (ρ : Rho) : EZ Dat := (fa z ρ).bind fun z1 x => (fb z1 ρ).bind fun z2 y => opD g z2 x y
theorem zop_of {r : R2} {g : Dat → Dat → Option Dat} (hd : OpD X ⟨c, fun _ => none, []⟩ r g) : ∀ σ H Q, ofZE X.K c W (opZ g fa fb) σ H Q → tOp r (ofZE X.K c W fa) (ofZE X.K c W fb) σ H Q := fun σ H Q ⟨cm, F, ρ, hc, rel, q⟩ =>
  ⟨cm, F, ρ, hc, rel, PoE.mono (PoE.bind q) (fun cm1 F1 H1 x z1 g1 q1 vx rx => ⟨cm1, F1, ρ, g1.c.trans hc, rel.grow g1, PoE.mono (PoE.bind q1) (fun cm2 F2 H2 y z2 g2 q2 vy ry => by
    have rx2 := g2.r rx
    unfold opD at q2
    split at q2
    · rename_i d hs
      obtain ⟨x', e1, hs⟩ := bind_some hs
      obtain ⟨y', e2, hs⟩ := bind_some hs
      by_cases ht : tfl d = true
      · simp only [ht, ↓reduceIte] at q2
        have ep := pl_of (g2.c.trans (g1.c.trans hc))
        rw [← ep] at hd
        exact hd (plus F2 H2 (cels cm2)) H2 vx vy x' y' d Q (plus_le g2.fh) (rx2.snap' g2.cel e1) (ry.snap' g2.cel e2) hs fun v F' H' x r => q2 cm2 _ H' (back_grow g2.fh g2.cel x) v (r.flat (back_sqT g2.cel x.f) ht)
      · simp only [ht] at q2
        exact q2.elim
    · exact q2.elim) fun _ _ _ _ _ _ h => h⟩) fun _ _ _ _ _ _ h => h⟩
theorem z_op {op : Operator} {r : R2} {g : Dat → Dat → Option Dat} (ho : OpR X (binaryOp op) r) (hd : OpD X ⟨c, fun _ => none, []⟩ r g) (ha : PE X a (ofZE X.K c W fa)) (hb : PE X b (ofZE X.K c W fb)) : PE X (.BinOp a op b pos) (ofZE X.K c W (opZ g fa fb)) := PE.imp (pe_op ho ha hb) (zop_of hd)
theorem z_cmp {op : CmpOp} {r : R2} {g : Dat → Dat → Option Dat} (ho : OpR X (compareOp op) r) (hd : OpD X ⟨c, fun _ => none, []⟩ r g) (ha : PE X a (ofZE X.K c W fa)) (hb : PE X b (ofZE X.K c W fb)) (hm : behindInMarks op b = false := by rfl) : PE X (.Compare a [op] [b] pos) (ofZE X.K c W (opZ g fa fb)) := PE.imp (pe_cmpR ho ha hb hm) (zop_of hd)
/-! ### tests -/
def tsZ (fa : Sto → Rho → EZ Dat) (z : Sto) (ρ : Rho) : EZ Bool := (fa z ρ).bind fun z d => match d with
  | .bl k => .ok z k
  | _ => .bad
theorem ts_of : ∀ σ H (Q : Bool → Hp → Prop), ofZT X.K c W (tsZ fa) σ H Q → ofZE X.K c W fa σ H fun x H' => ∃ k, x = .bl k ∧ Q k H' := fun σ H Q ⟨cm, F, ρ, hc, rel, q⟩ =>
  ⟨cm, F, ρ, hc, rel, PoE.mono (PoE.bind q) (fun cm1 F1 H1 d z1 g1 q1 v r => by
    split at q1
    · exact ⟨_, r.bl_inv, q1 cm1 F1 H1 (Grow.refl g1.fh g1.cel)⟩
    · exact q1.elim) fun _ _ _ _ _ _ h => h⟩
theorem zt_val (h : PE X e (ofZE X.K c W fa)) (he : ∀ whole, isTrue e X.env whole = (do let v ← whole; standAt e.pos; holding [v] (truthy v)) := by intro _; rfl) : PT X e (ofZT X.K c W (tsZ fa)) := PT.imp (pt_val h he) ts_of
theorem zt_cmp {op : CmpOp} {r : R2} {g : Dat → Dat → Option Dat} (ho : OpR X (compareOp op) r) (hd : OpD X ⟨c, fun _ => none, []⟩ r g) (ha : PE X a (ofZE X.K c W fa)) (hb : PE X b (ofZE X.K c W fb)) (hm : behindInMarks op b = false := by rfl) : PT X (.Compare a [op] [b] pos) (ofZT X.K c W (tsZ (opZ g fa fb))) := PT.imp (pt_cmpR ho ha hb hm) fun σ H Q q => zop_of hd σ H _ (ts_of σ H Q q)
def noneZ (k : Bool) (fa : Sto → Rho → EZ Dat) (z : Sto) (ρ : Rho) : EZ Dat := (fa z ρ).bind fun z d => .ok z (.bl (isNo d == k))
theorem znone_of : ∀ σ H Q, ofZE X.K c W (noneZ true fa) σ H Q → tIsN (ofZE X.K c W fa) σ H Q := fun σ H Q ⟨cm, F, ρ, hc, rel, q⟩ =>
  ⟨cm, F, ρ, hc, rel, PoE.mono (PoE.bind q) (fun cm1 F1 H1 d z1 g1 q1 v r => by
    show Q (.bl (decide (v = .non))) H1
    rw [r.isN]
    have := q1 cm1 F1 H1 (Grow.refl g1.fh g1.cel) (.bl (isNo d == true)) (.bl _)
    rw [show (isNo d == true) = isNo d by cases isNo d <;> rfl] at this
    exact this) fun _ _ _ _ _ _ h => h⟩
theorem zsome_of : ∀ σ H Q, ofZE X.K c W (noneZ false fa) σ H Q → tNotN (ofZE X.K c W fa) σ H Q := fun σ H Q ⟨cm, F, ρ, hc, rel, q⟩ =>
  ⟨cm, F, ρ, hc, rel, PoE.mono (PoE.bind q) (fun cm1 F1 H1 d z1 g1 q1 v r => by
    show Q (.bl (!decide (v = .non))) H1
    rw [r.isN]
    have := q1 cm1 F1 H1 (Grow.refl g1.fh g1.cel) (.bl (isNo d == false)) (.bl _)
    rw [show (isNo d == false) = !isNo d by cases isNo d <;> rfl] at this
    exact this) fun _ _ _ _ _ _ h => h⟩
theorem z_isN {j p} (ha : PE X a (ofZE X.K c W fa)) : PE X (.Compare a [.Is] [.Constant .none j p] pos) (ofZE X.K c W (noneZ true fa)) := PE.imp (pe_cmp (pc_isN ha) rfl) znone_of
theorem z_notN {j p} (ha : PE X a (ofZE X.K c W fa)) : PE X (.Compare a [.IsNot] [.Constant .none j p] pos) (ofZE X.K c W (noneZ false fa)) := PE.imp (pe_cmp (pc_notN ha) rfl) zsome_of
theorem zt_isN {j p} (ha : PE X a (ofZE X.K c W fa)) : PT X (.Compare a [.Is] [.Constant .none j p] pos) (ofZT X.K c W (tsZ (noneZ true fa))) := PT.imp (pt_cmp (pc_isN ha)) fun σ H Q q => znone_of σ H _ (ts_of σ H Q q)
theorem zt_notN {j p} (ha : PE X a (ofZE X.K c W fa)) : PT X (.Compare a [.IsNot] [.Constant .none j p] pos) (ofZT X.K c W (tsZ (noneZ false fa))) := PT.imp (pt_cmp (pc_notN ha)) fun σ H Q q => zsome_of σ H _ (ts_of σ H Q q)
def andZ (f g : Sto → Rho → EZ Bool) (z : Sto) (ρ : Rho) : EZ Bool := (f z ρ).bind fun z1 k => match k with
  | true => g z1 ρ
  | false => .ok z1 false
def orZ (f g : Sto → Rho → EZ Bool) (z : Sto) (ρ : Rho) : EZ Bool := (f z ρ).bind fun z1 k => match k with
  | true => .ok z1 true
  | false => g z1 ρ
def notZ (f : Sto → Rho → EZ Bool) (z : Sto) (ρ : Rho) : EZ Bool := (f z ρ).bind fun z1 k => .ok z1 (!k)
theorem zw_and1 (h : PT X a (ofZT X.K c W f)) : PW X (.BoolOp .And [a] pos) (ofZT X.K c W f) := pw_and1 h
theorem zw_or1 (h : PT X a (ofZT X.K c W f)) : PW X (.BoolOp .Or [a] pos) (ofZT X.K c W f) := pw_or1 h
theorem zw_and (ha : PT X a (ofZT X.K c W f)) (hb : PW X (.BoolOp .And (b :: rest) pos) (ofZT X.K c W g)) : PW X (.BoolOp .And (a :: b :: rest) pos) (ofZT X.K c W (andZ f g)) := PW.imp (pw_and ha hb) fun σ H Q ⟨cm, F, ρ, hc, rel, q⟩ =>
  ⟨cm, F, ρ, hc, rel, PoE.mono (PoE.bind q) (fun cm1 F1 H1 k z1 g1 q1 => by
    cases k with
    | true => exact iteT ⟨cm1, F1, ρ, g1.c.trans hc, rel.grow g1, q1⟩
    | false => exact iteF (q1 cm1 F1 H1 (Grow.refl g1.fh g1.cel))) fun _ _ _ _ _ _ h => h⟩
theorem zw_or (ha : PT X a (ofZT X.K c W f)) (hb : PW X (.BoolOp .Or (b :: rest) pos) (ofZT X.K c W g)) : PW X (.BoolOp .Or (a :: b :: rest) pos) (ofZT X.K c W (orZ f g)) := PW.imp (pw_or ha hb) fun σ H Q ⟨cm, F, ρ, hc, rel, q⟩ =>
  ⟨cm, F, ρ, hc, rel, PoE.mono (PoE.bind q) (fun cm1 F1 H1 k z1 g1 q1 => by
    cases k with
    | true => exact iteT (q1 cm1 F1 H1 (Grow.refl g1.fh g1.cel))
    | false => exact iteF ⟨cm1, F1, ρ, g1.c.trans hc, rel.grow g1, q1⟩) fun _ _ _ _ _ _ h => h⟩
theorem zt_not (ha : PT X a (ofZT X.K c W f)) : PT X (.UnaryOp .Not a pos) (ofZT X.K c W (notZ f)) := PT.imp (pt_not ha) fun σ H Q ⟨cm, F, ρ, hc, rel, q⟩ =>
  ⟨cm, F, ρ, hc, rel, PoE.mono (PoE.bind q) (fun cm1 F1 H1 k z1 g1 q1 => q1 cm1 F1 H1 (Grow.refl g1.fh g1.cel)) fun _ _ _ _ _ _ h => h⟩
/-! .. as values -/
def notVZ (fa : Sto → Rho → EZ Dat) (z : Sto) (ρ : Rho) : EZ Dat := (fa z ρ).bind fun z1 d => match d with
  | .bl k => .ok z1 (.bl (!k))
  | _ => .bad
def andVZ (fa fb : Sto → Rho → EZ Dat) (z : Sto) (ρ : Rho) : EZ Dat := (fa z ρ).bind fun z1 d => match d with
  | .bl true => fb z1 ρ
  | .bl false => .ok z1 (.bl false)
  | _ => .bad
def orVZ (fa fb : Sto → Rho → EZ Dat) (z : Sto) (ρ : Rho) : EZ Dat := (fa z ρ).bind fun z1 d => match d with
  | .bl true => .ok z1 (.bl true)
  | .bl false => fb z1 ρ
  | _ => .bad
theorem zv_one {op} (h : PE X a (ofZE X.K c W fa)) : PE X (.BoolOp op [a] pos) (ofZE X.K c W fa) := pe_one h
theorem zv_not (ha : PE X a (ofZE X.K c W fa)) : PE X (.UnaryOp .Not a pos) (ofZE X.K c W (notVZ fa)) := PE.imp (pe_not ha) fun σ H Q ⟨cm, F, ρ, hc, rel, q⟩ =>
  ⟨cm, F, ρ, hc, rel, PoE.mono (PoE.bind q) (fun cm1 F1 H1 d z1 g1 q1 v r => by
    split at q1
    · exact ⟨_, r.bl_inv, q1 cm1 F1 H1 (Grow.refl g1.fh g1.cel) _ (.bl _)⟩
    · exact q1.elim) fun _ _ _ _ _ _ h => h⟩
theorem zv_and (ha : PE X a (ofZE X.K c W fa)) (hb : PE X (.BoolOp .And (b :: rest) pos) (ofZE X.K c W fb)) : PE X (.BoolOp .And (a :: b :: rest) pos) (ofZE X.K c W (andVZ fa fb)) := PE.imp (pe_and ha hb) fun σ H Q ⟨cm, F, ρ, hc, rel, q⟩ =>
  ⟨cm, F, ρ, hc, rel, PoE.mono (PoE.bind q) (fun cm1 F1 H1 d z1 g1 q1 v r => by
    split at q1
    · exact ⟨true, r.bl_inv, iteT ⟨cm1, F1, ρ, g1.c.trans hc, rel.grow g1, q1⟩⟩
    · exact ⟨false, r.bl_inv, iteF (q1 cm1 F1 H1 (Grow.refl g1.fh g1.cel) _ (.bl _))⟩
    · exact q1.elim) fun _ _ _ _ _ _ h => h⟩
theorem zv_or (ha : PE X a (ofZE X.K c W fa)) (hb : PE X (.BoolOp .Or (b :: rest) pos) (ofZE X.K c W fb)) : PE X (.BoolOp .Or (a :: b :: rest) pos) (ofZE X.K c W (orVZ fa fb)) := PE.imp (pe_or ha hb) fun σ H Q ⟨cm, F, ρ, hc, rel, q⟩ =>
  ⟨cm, F, ρ, hc, rel, PoE.mono (PoE.bind q) (fun cm1 F1 H1 d z1 g1 q1 v r => by
    split at q1
    · exact ⟨true, r.bl_inv, iteT (q1 cm1 F1 H1 (Grow.refl g1.fh g1.cel) _ (.bl _))⟩
    · exact ⟨false, r.bl_inv, iteF ⟨cm1, F1, ρ, g1.c.trans hc, rel.grow g1, q1⟩⟩
    · exact q1.elim) fun _ _ _ _ _ _ h => h⟩
/-! ### new lists and tuples, of anything -/
def lstZ (cell : Bool) (fs : Sto → Rho → EZ (List Dat)) (z : Sto) (ρ : Rho) : EZ Dat := (fs z ρ).bind fun z1 ds => @ite _ (ds.length ≤ sizeLine) (Classical.propDecidable _) (if cell = true then .ok (z1 ++ [.lst ds]) (.cel z1.length) else .ok z1 (.lst ds)) .bad
def tupZ (fs : Sto → Rho → EZ (List Dat)) (z : Sto) (ρ : Rho) : EZ Dat := (fs z ρ).bind fun z1 ds => @ite _ (ds.length ≤ sizeLine) (Classical.propDecidable _) (.ok z1 (.tup ds)) .bad
theorem z_tup {k : Nat} (h : PA X es (ofZA X.K c W fs)) : PE X (.Tuple es k pos) (ofZE X.K c W (tupZ fs)) := PE.imp (pe_tup h) fun σ H Q ⟨cm, F, ρ, hc, rel, q⟩ =>
  ⟨cm, F, ρ, hc, rel, PoE.mono (PoE.bind q) (fun cm1 F1 H1 ds z1 g1 q1 vs rs => by
    by_cases hl : ds.length ≤ sizeLine
    · rw [if_pos hl] at q1
      refine ⟨by rw [rs.length]; exact hl, fun p hp => ?_⟩
      have x := Ext.laid (o := .tup vs) g1.fh hp
      exact q1 cm1 _ _ (Grow.ofExt x g1.cel) _ (.tup (.inl (.inl upd_same)) (rs.mono x.f))
    · rw [if_neg hl] at q1
      exact q1.elim) fun _ _ _ _ _ _ h => h⟩
theorem z_lst (cell : Bool) (h : PA X es (ofZA X.K c W fs)) : PE X (.List es pos) (ofZE X.K c W (lstZ cell fs)) := PE.imp (pe_lst h) fun σ H Q ⟨cm, F, ρ, hc, rel, q⟩ =>
  ⟨cm, F, ρ, hc, rel, PoE.mono (PoE.bind q) (fun cm1 F1 H1 ds z1 g1 q1 vs rs => by
    by_cases hl : ds.length ≤ sizeLine
    · rw [if_pos hl] at q1
      refine ⟨by rw [rs.length]; exact hl, fun p hp => ?_⟩
      cases cell with
      | false =>
        have x := Ext.laid (o := .lst vs) g1.fh hp
        exact q1 cm1 _ _ (Grow.ofExt x g1.cel) _ (.lst (.inl upd_same) (rs.mono x.f))
      | true =>
        have x := Ext.open (o := .lst vs) g1.fh hp
        have nc : ∀ k, cm1.t k ≠ some p := fun k hk => by
          obtain ⟨o, z⟩ := g1.cel.own_ hk
          rw [hp] at z
          cases z
        have gz := g1.z
        subst gz
        exact q1 _ _ _ ((Grow.ofExt x g1.cel).trans (Grow.snoc (c := .lst ds) x.fh (g1.cel.ext x) (g1.fh.free hp) nc (.lst upd_same rs))) _ (.cel (by show (if cm1.z.length = cm1.z.length then some p else _) = _; rw [if_pos rfl]))
    · rw [if_neg hl] at q1
      exact q1.elim) fun _ _ _ _ _ _ h => h⟩
end
end
end Pq

namespace Pq
open PySem PySem.Spec PyProof.Rows L2
noncomputable section
section
variable {X : Cx} {cm : CM} {W : L2.WX} {e a b : Expr} {pos apos cpos : Pos}
/-! ### [.. for ..] of what is new -/
def lcGoO (h : Dat → Rho → Option Rho) (t : Rho → Option Bool) (f : Rho → Option SV) (ρ : Rho) : List Dat → Option (List SV)
  | [] => some []
  | d :: ds => (h d ρ).bind fun ρ1 => (t ρ1).bind fun c => if c = true then (f ρ1).bind fun y => (lcGoO h t f ρ ds).map fun ys => y :: ys else lcGoO h t f ρ ds
def lcOO (it : Rho → Option (List Dat)) (vs : List Nat) (h : Dat → Rho → Option Rho) (t : Rho → Option Bool) (f : Rho → Option SV) : Rho → Option SV := fun ρ => (it ρ).bind fun ds => @ite _ (ds.length ≤ sizeLine) (Classical.propDecidable _) ((lcGoO h t f (wipeR ρ vs) ds).map SV.ol) none
theorem lcOO_of {it : Rho → Option (List Dat)} {vs is : List Nat} {h : Dat → Rho → Option Rho} {t : Rho → Option Bool} {f : Rho → Option SV} (hsub : ∀ i ∈ is, i ∈ vs) : ∀ σ H Q, ofO X.K cm (lcOO it vs h t f) σ H Q → tLc (ofI X.K cm it) (ofG X.K cm h is) (ofT X.K cm t) (ofO X.K cm f) vs σ H Q := fun σ H Q ⟨F, ρ, As, sv, rel, hf, q⟩ => by
  obtain ⟨ds, e1, hf⟩ := bind_some hf
  split at hf
  case isFalse => cases hf
  rename_i hz
  obtain ⟨out, hf2, rfl⟩ := map_some' hf
  refine ⟨F, ρ, As, ds, rel, e1, fun F1 H1 J x1 hJ D hD => ?_⟩
  have hFD : F1 D = none := x1.fh.free hD
  refine ⟨fun i m H' => m = ds.length - i ∧ i ≤ ds.length ∧ ∃ F2 acc o1 o2 A, Ext F1 H1 F2 H' ∧ F2 D = none ∧ H' D = some (.lst acc) ∧ ROs X.K cm F2 H' acc o1 A ∧ A.Nodup ∧ (∀ a ∈ A, H1 a = none) ∧ D ∉ A ∧ acc.length ≤ i ∧ lcGoO h t f (wipeR ρ vs) (ds.drop i) = some o2 ∧ o1 ++ o2 = out,
    ⟨ds.length, by simp, Nat.zero_le _, F1, [], [], out, [], Ext.open x1.fh hD, hFD, upd_same, .nil, .nil, by simp, by simp, Nat.zero_le _, hf2, rfl⟩, ?_⟩
  rintro i m H2 ⟨rfl, hi, F2, acc, o1, o2, A, x2, hF2, hH2, ra, nd, nA, nD, la, hgo, heq⟩
  by_cases hlt : i < ds.length
  · refine .inr ⟨hJ.go i F2 H2 x2.f x2.fh ((rel.cel.ext x1).ext x2) hlt, fun H' => ∃ F3 acc' o1' o2' A', Ext F1 H1 F3 H' ∧ F3 D = none ∧ H' D = some (.lst acc') ∧ ROs X.K cm F3 H' acc' o1' A' ∧ A'.Nodup ∧ (∀ a ∈ A', H1 a = none) ∧ D ∉ A' ∧ acc'.length ≤ i + 1 ∧ lcGoO h t f (wipeR ρ vs) (ds.drop (i + 1)) = some o2' ∧ o1' ++ o2' = out, fun H' z => ⟨ds.length - (i + 1), by omega, rfl, hlt, z⟩, fun x H' hy => ?_⟩
    obtain ⟨F3, d, x3, ed, rd⟩ := hJ.yld i F2 H2 x H' x2.f x2.fh ((rel.cel.ext x1).ext x2) hlt hy
    rw [List.drop_eq_getElem_cons hlt, lcGoO] at hgo
    have edd : ds[i] = d := by rw [List.getElem?_eq_getElem hlt] at ed; exact Option.some.inj ed
    rw [edd] at hgo
    obtain ⟨ρ1, e2, hgo⟩ := bind_some hgo
    obtain ⟨c, e3, hgo⟩ := bind_some hgo
    have x123 := x1.trans (x2.trans x3)
    refine ⟨F3, wipeR ρ vs, As, d, ρ1, (rel.ext x123).wipe vs, rd, e2, fun σ2 As2 rel2 s2 ou2 l2 => ⟨wipe_eq (l2.trans (wipe_length _ _)) fun j hj => ou2 j fun z => hj (hsub j z), F3, ρ1, As2, c, rel2, e3, fun F4 H4 x4 => ?_⟩⟩
    have x34 := x3.trans x4
    cases c with
    | true =>
      rw [if_pos rfl] at hgo
      obtain ⟨y, e4, hgo⟩ := bind_some hgo
      obtain ⟨ys, e5, rfl⟩ := map_some' hgo
      refine iteT ?_
      refine ⟨F4, ρ1, As2, y, rel2.ext x4, e4, fun v F5 H5 A5 x5 r5 nd5 nA5 => ?_⟩
      have x345 := x34.trans x5
      have hD5 := x345.h _ _ hH2
      have hF5 := ext_none x345 hH2 hF2
      have D5 : D ∉ A5 := fun z => by
        have := nA5 D z
        rw [x34.h _ _ hH2] at this
        cases this
      have ra5 := ra.ext x345
      have dis : ∀ a ∈ A, a ∉ A5 := fun a ha hb => by
        obtain ⟨_, o, hq⟩ := (ra.ext x34).own a ha
        rw [nA5 a hb] at hq
        cases hq
      have both : ROs X.K cm F5 (upd H5 D (.lst (acc ++ [v]))) (acc ++ [v]) (o1 ++ [y]) (A ++ A5) := by
        have q3 : ROs X.K cm F5 (upd H5 D (.lst (acc ++ [v]))) [v] [y] (A5 ++ []) := .cons (r5.out D5) .nil
        rw [List.append_nil] at q3
        exact ROs.app (ra5.out nD) q3
      have xx := x2.trans x345
      refine ⟨acc, hD5, by omega, F5, acc ++ [v], o1 ++ [y], ys, A ++ A5, ?_, hF5, upd_same, both, ?_, fun a ha => ?_, fun z => ?_, by rw [List.length_append, List.length_singleton]; omega, e5, by rw [List.append_assoc]; exact heq⟩
      · refine ⟨xx.f, fun a o z => ?_, fun a o z => ?_, xx.new⟩
        · rw [upd_ne (ne_of_none z hD)]
          exact xx.h a o z
        · rw [upd_ne (ne_of_none z hF5)]
          exact xx.fh a o z
      · exact List.nodup_append.mpr ⟨nd, nd5, fun a ha b hb hab => dis a ha (by rw [hab]; exact hb)⟩
      · rcases List.mem_append.mp ha with h | h
        · exact nA a h
        · exact (x2.trans x34).h.free (nA5 a h)
      · rcases List.mem_append.mp z with h | h
        · exact nD h
        · exact D5 h
    | false =>
      rw [if_neg Bool.false_ne_true] at hgo
      refine iteF ?_
      exact ⟨F4, acc, o1, o2, A, x2.trans x34, ext_none x34 hH2 hF2, x34.h _ _ hH2, ra.ext x34, nd, nA, nD, by omega, hgo, heq⟩
  · have ei : i = ds.length := by omega
    subst ei
    rw [List.drop_length, lcGoO] at hgo
    cases hgo
    rw [List.append_nil] at heq
    subst heq
    refine .inl ⟨hJ.stop _ F2 H2 x2.f x2.fh ((rel.cel.ext x1).ext x2) (Nat.le_refl _), q (.ref D) F2 H2 (D :: A) (x1.trans x2) (.ol hF2 hH2 ra) (List.nodup_cons.mpr ⟨nD, nd⟩) fun a ha => ?_⟩
    rcases List.mem_cons.mp ha with rfl | ha
    · exact x1.h.free hD
    · exact x1.h.free (nA a ha)
section
variable {elt tg iter : Expr} {ifs : List Expr} {scope : Scope} {own : List (Str × Nat)} {it : Rho → Option (List Dat)} {is : List Nat} {h : Dat → Rho → Option Rho} {t : Rho → Option Bool} {fe : Rho → Option SV}
theorem o_lcO {vs : List Nat} (hv : own.map (·.2) = vs) (hc : X.calm = true) (hN : X.N.Nodup) (hi : PI X tg iter (ofI X.K cm it)) (ok : BlkOk X.N X.env.scope scope own) (hsub : ∀ i ∈ is, i ∈ own.map (·.2))
    (hg : ∀ (s : Shared) (H : Hp) (C : Addr) (cl : List (Str × Addr)) (fp : List Addr), PG (X.blk s H scope (compEnvC scope cl C X.env) fp) tg (ofG X.K cm h is)) (ht : ∀ (s : Shared) (H : Hp) (C : Addr) (cl : List (Str × Addr)) (fp : List Addr), PTs (X.blk s H scope (compEnvC scope cl C X.env) fp) ifs (ofT X.K cm t))
    (he : ∀ (s : Shared) (H : Hp) (C : Addr) (cl : List (Str × Addr)) (fp : List Addr), PE (X.blk s H scope (compEnvC scope cl C X.env) fp) elt (ofO X.K cm fe)) (hs : ∀ x, foldedSetIterable iter X.env x = pure x := by intro _; rfl) :
    PE X (.ListComp elt [⟨tg, iter, ifs, 0⟩] scope pos) (ofO X.K cm (lcOO it vs h t fe)) := by
  subst hv
  exact PE.imp (pe_lc hc hN hi ok hg ht he hs) (lcOO_of hsub)
end
end
end
end Pq

namespace Pq
open PySem PySem.Spec PyProof.Rows L2
noncomputable section
/-! ### a new settled object, of what stands now -/
def mkF (g : Addr → List Dat → Option SV) (c : Str) (ds : List Dat) : Option Dat := @dite _ (∃ d, ∀ x, ∃ fs xs, g x ds = some (.oo x c fs xs) ∧ tfv (.oo x c fs xs) = true ∧ frz (.oo x c fs xs) = d) (Classical.propDecidable _) (fun h => some (Classical.choose h)) fun _ => none
theorem mkF_is {g : Addr → List Dat → Option SV} {c : Str} {ds : List Dat} {d : Dat} (h : ∀ x, ∃ fs xs, g x ds = some (.oo x c fs xs) ∧ tfv (.oo x c fs xs) = true ∧ frz (.oo x c fs xs) = d) : mkF g c ds = some d := by
  unfold mkF
  have hh : ∃ d, ∀ x, ∃ fs xs, g x ds = some (.oo x c fs xs) ∧ tfv (.oo x c fs xs) = true ∧ frz (.oo x c fs xs) = d := ⟨d, h⟩
  rw [dif_pos hh]
  have q := Classical.choose_spec hh
  obtain ⟨fs, xs, h1, _, h2⟩ := h 0
  obtain ⟨fs', xs', h3, _, h4⟩ := q 0
  rw [h1] at h3
  cases h3
  rw [← h4, h2]
theorem mkF_inv {g : Addr → List Dat → Option SV} {c : Str} {ds : List Dat} {d : Dat} (h : mkF g c ds = some d) : ∀ x, ∃ fs xs, g x ds = some (.oo x c fs xs) ∧ tfv (.oo x c fs xs) = true ∧ frz (.oo x c fs xs) = d := by
  unfold mkF at h
  split at h
  · rename_i hh
    cases h
    exact Classical.choose_spec hh
  · cases h
section
variable {X : Cx} {c : Str → Addr} {W : L2.WX} {e : Expr} {es : List Expr} {pos p : Pos} {k : Nat} {fn : Addr} {fd : FuncData} {ps : List Str} {g : Addr → List Dat → Option SV} {x cn : Str} {fs : Sto → Rho → EZ (List Dat)}
def mkSZ (g : Addr → List Dat → Option SV) (cn : Str) (fs : Sto → Rho → EZ (List Dat)) (z : Sto) (ρ : Rho) : EZ Dat := (fs z ρ).bind fun z1 ds => optZ z1 ((sns z1 ds).bind (mkF g cn))
def mkDZ (g : Addr → List Dat → Option SV) (cn : Str) (fs : Sto → Rho → EZ (List Dat)) (z : Sto) (ρ : Rho) : EZ Dat := (fs z ρ).bind fun z1 ds => optZ z1 (mkS g cn ds)
theorem z_makeS (M : Mk X.K (c cn) fn) (G : FnOk X.prog X.w X.K X.mg X.base (L2.CX X.prog X.w) k fn fd ps (spI X.K ⟨c, fun _ => none, []⟩ cn g)) (hr : Room (k + 1) X.A) (hg : Gl X x) (hm : X.mg x = some (.ref (c cn))) (hb : Binds X.K fd ps []) (ha : PA X (e :: es) (ofZA X.K c W fs))
    (hdb : (x == ("__debug__" : Str)) = false := by decide) (he : starEach (e :: es) X.env = (false, eval e X.env) :: starEach es X.env := by rfl) (hpl : (backTo pos (starEach es X.env)).any (·.1) = false := by rfl) : PE X (.Call (.Name x p) (e :: es) [] pos) (ofZE X.K c W (mkSZ g cn fs)) :=
  PE.imp (pe_make (E := fun _ _ _ => False) M G hr hg hm hb .nil passL ha hdb he hpl) fun σ H Q ⟨cm, F, ρ, hc, rel, q⟩ =>
    ⟨cm, F, ρ, hc, rel, PoE.mono (PoE.bind q) (fun cm1 F1 H1 ds z1 g1 q1 vs rs => fun x dx hx hdx hne => by
      cases hs : (sns cm1.z ds).bind (mkF g cn) with
      | none => rw [hs] at q1; exact q1.elim
      | some d =>
        rw [hs] at q1
        obtain ⟨ds', h1, h2⟩ := bind_some hs
        obtain ⟨fs, xs, h3, h4, h5⟩ := mkF_inv h2 x
        have ec : cm1.c = c := g1.c.trans hc
        have ep := pl_of ec
        have rs' := rs.snap' g1.cel h1
        rw [ep] at rs'
        rw [List.append_nil]
        refine ⟨x, dx, vs, H1, _, ds', _, rfl, rfl, hx, hdx, hne, plus_le g1.fh, Cells.zero, rs', h3, ⟨fs, xs, rfl⟩, fun F' H' A x2 r nd n => ⟨rfl, ?_⟩⟩
        rw [← ep] at r
        have gb := back_grow g1.fh g1.cel x2
        have p := settle gb.fh gb.cel (r.back g1.cel x2.f h4) (not_cell g1.cel n)
        rw [h5] at p
        exact q1 cm1 _ H' (gb.trans p.1) _ p.2) fun _ _ _ _ _ _ h => h⟩
theorem z_makeD (M : Mk X.K (c cn) fn) (G : ∀ t z, FnOk X.prog X.w X.K X.mg X.base (L2.CX X.prog X.w) k fn fd ps (spI X.K ⟨c, t, z⟩ cn g)) (hr : Room (k + 1) X.A) (hg : Gl X x) (hm : X.mg x = some (.ref (c cn))) (hb : Binds X.K fd ps []) (ha : PA X (e :: es) (ofZA X.K c W fs))
    (hdb : (x == ("__debug__" : Str)) = false := by decide) (he : starEach (e :: es) X.env = (false, eval e X.env) :: starEach es X.env := by rfl) (hpl : (backTo pos (starEach es X.env)).any (·.1) = false := by rfl) : PE X (.Call (.Name x p) (e :: es) [] pos) (ofZE X.K c W (mkDZ g cn fs)) := by
  have G' : FnOk X.prog X.w X.K X.mg X.base (L2.CX X.prog X.w) k fn fd ps (fun vs H Q E => ∃ t z, spI X.K ⟨c, t, z⟩ cn g vs H Q E) := ⟨fun vs H Q E ⟨t, z, h⟩ => (G t z).len vs H Q E h, fun A outer s H args us vs Q E hr he hb r ⟨t, z, h⟩ => (G t z).run A outer s H args us vs Q E hr he hb r h⟩
  exact PE.imp (pe_make (E := fun _ _ _ => False) M G' hr hg hm hb .nil passL ha hdb he hpl) fun σ H Q ⟨cm, F, ρ, hc, rel, q⟩ =>
    ⟨cm, F, ρ, hc, rel, PoE.mono (PoE.bind q) (fun cm1 F1 H1 ds z1 g1 q1 vs rs => fun x dx hx hdx hne => by
      cases hs : mkS g cn ds with
      | none => rw [hs] at q1; exact q1.elim
      | some d =>
        rw [hs] at q1
        refine ⟨cm1.t, cm1.z, ?_⟩
        have ec : cm1.c = c := g1.c.trans hc
        rw [cm_of ec]
        have hcc : (cm1 cn) = c cn := congrFun ec cn
        rw [← hcc]
        exact mk_run g1.fh g1.cel rs hs (fun v F' H' x2 r => q1 cm1 F' H' (Grow.ofExt x2 g1.cel) v r) x dx hx hdx hne) fun _ _ _ _ _ _ h => h⟩
end
/-! ### the law's def -/
theorem law_okZ {P : Program} {w : World} {K : PySem.W.Frag} {mg : Str → Option Value} {base : Heap} {c : Str → Addr} {k : Nat} {f : Addr} {fd : FuncData} {ps : List Str} {g : Sto → List Dat → Option OZ} (G : FnOk P w K mg base (L2.CX P w) k f fd ps (spZ K c g)) (hg : ∀ ns : List Int, ns.length ≤ 63 → ∃ z, g [] [.scr (ns.map Dat.int)] = some (.ok z (.bl true))) : FnOk P w K mg base (L2.CX P w) k f fd ps (spL K) :=
  G.imp fun vs H Q E ⟨a, ns, ev, hS, hl, q⟩ => by
    subst ev
    obtain ⟨z, hz⟩ := hg ns hl
    exact ⟨⟨c, fun _ => none, []⟩, H, [.scr (ns.map Dat.int)], _, rfl, Same.refl H, Cells.zero, .cons (.scr hS (ints_rs ns)) .nil, hz, fun v cm' F' H' g r => by
      rw [r.bl_inv]
      exact q H'⟩
end
end Pq

namespace Pq
open PySem PySem.Spec PyProof.Rows L2
noncomputable section
/-! ### sorted(d.keys()) -/
def keysO (p d : Addr) : HO := .ext fun h => PySem.W.KdlKeysView h p d
theorem keysO_ok {P : Program} {w : World} {H : Hp} {h : Heap} {p d : Addr} (e : h.get? p = some { cls := .type "dict_keys", data := .fields #[.ref d] }) : ObjOk P w H h p (keysO p d) :=
  ⟨⟨_, e, rfl, rfl⟩, ⟨_, e⟩, fun h1 h2 x k => let ⟨o, ho, r⟩ := x; ⟨o, k o ho, r⟩⟩
section
variable {X : Cx} {cm : CM} {e a : Expr} {ta : TE} {pos p apos cpos : Pos} {fa : Rho → Option Dat}
def tKeys (ta : TE) : TE := fun σ H Q => ta σ H fun x H1 => ∃ d kvs, x = .ref d ∧ Rd H1 d (.dK kvs) ∧ ∀ p, H1 p = none → Q (.ref p) (upd H1 p (keysO p d))
theorem pe_keys (he : PE X e ta) (hbase : attributeBase e "keys" X.env (eval e X.env) = eval e X.env := by rfl) (hline : (apos.endLine == cpos.line) = true := by rfl) : PE X (.Call (.Attribute e "keys" apos) [] [] cpos) (tKeys ta) := by
  refine ⟨fun pins s σ H Q I h => ?_⟩
  refine wpAny_Call_method (T := "dict") (id := "dict.keys") hbase rfl hline F.plainAttrs_dict F.slot_dict_keys F.type_dict_keys (thn (he.run pins s σ H _ I h) fun u s1 ⟨x, H1, I1, rx, d, kvs, ex, hd, q⟩ => ?_)
  subst ex
  obtain rfl : u = Value.ref d := rx
  obtain ⟨z, lo, vs, rel, dd⟩ := dk_rd I1.hok hd
  refine ⟨dd.typeIs, dd.mapOf.noDict, ?_⟩
  have hf : H1 s1.heap.objs.size = none := I1.hok.fresh (Nat.le_refl _)
  show wpAny _ _ (callWith cpos (.builtin "dict.keys") [.ref d] [] []) _ X.xe s1
  exact method_meetsIn F.slot_dict_keys F.entry_dict_keys rfl (PySem.evalArgs_none ⟨rfl, dd.typeIs, F.args_dict_keys_1 _, _, PySem.W.kdl_meets_keys (mixKind X.prog X.w) d lo, ⟨vs, dd⟩, ⟨.ref s1.heap.objs.size, upd H1 s1.heap.objs.size (keysO s1.heap.objs.size d), I1.laid (t' := s1.toks) (fun b u e => Heap.get?_push_of_some _ e) (Nat.le_refl _) (keysO_ok (Heap.get?_push_size _ rfl)), rfl, q _ hf⟩⟩)
def rSrtK2 : List V → Hp → VK → Prop := fun xs H Q => ∃ (v a : Addr) (kvs : List (Key × V)) (ks : List Str), xs = [.ref v] ∧ H v = some (keysO v a) ∧ Rd H a (.dK kvs) ∧ kvs.map (·.1) = ks.map Sum.inr ∧ ks.length < 64 ∧
  ∀ ys p, ys.Perm ks → sortedS ys = true → H p = none → Q (.ref p) (upd H p (.lst (ys.map V.str)))
/-- the same state, one call deeper -/
abbrev deep (X : Cx) : Cx := { X with A := X.A.in1 }
theorem deep_inv {pins : List (Addr × Obj)} {σ : L2.St} {H : Hp} {s : Shared} (I : Inv X pins σ H s) : Inv (deep X) pins σ H s := by
  have k := I.ok
  exact ⟨⟨k.mod, k.kind, k.glob, k.blt, k.above, k.inj, k.has, k.cab, k.hd, k.frames, k.stk, k.exf, k.bs, k.bsz, k.noex, k.exfs, k.funs, k.frf⟩, I.os, I.bare, I.base, I.loc, I.cell, I.free, I.freeC, I.pin, I.hok, I.len⟩
theorem deep_back {pins : List (Addr × Obj)} {σ : L2.St} {H : Hp} {s : Shared} (k : X.Ok) (I : Inv (deep X) pins σ H s) : Inv X pins σ H s :=
  ⟨k, I.os, I.bare, I.base, I.loc, I.cell, I.free, I.freeC, I.pin, I.hok, I.len⟩
/-- sorting a new row of texts, and handing it out -/
theorem new_sorted {pins : List (Addr × Obj)} {σ : L2.St} {H : Hp} {s : Shared} {ks : List Str} {acc : List Value} {Q : VK} (I : Inv X pins σ H s) (hv : Vals (ks.map V.str) acc) (h64 : ks.length < 64) (q : ∀ ys p, ys.Perm ks → sortedS ys = true → H p = none → Q (.ref p) (upd H p (.lst (ys.map V.str)))) :
    wpAny (model X.prog X.w) X.A.in1 (newList acc >>= fun l => holding [l] (call (.builtin "list.sort") [l]) >>= fun _ => pure (Fin.done (.ret l))) (fun fin s' => ∃ v, fin = .done (.ret v) ∧ EP X pins σ Q v s') X.xe s := by
  have hz : (ks.map V.str).length ≤ sizeLine := by rw [List.length_map, sizeLine_eq]; omega
  refine wpAny_bind (wpAny_newList ?_ (by rw [← hv.length]; exact hz))
  have I2 : Inv X pins σ (upd H s.heap.objs.size (.lst (ks.map V.str))) { s with heap := s.heap.push (seqObj "list" acc.toArray 0) } := I.laid (fun b u e => Heap.get?_push_of_some _ e) (Nat.le_refl _) (show ObjOk X.prog X.w _ _ _ (.lst (ks.map V.str)) from ⟨hz, acc, 0, hv, Heap.get?_push_size _ rfl⟩)
  refine wpAny_bind (wpAny_holding (thn (mt_sortS (X := deep X) pins _ σ _ (.ref s.heap.objs.size) [] (.ref s.heap.objs.size) [] (fun _ H' => Q (.ref s.heap.objs.size) H') (deep_inv I2) rfl .nil ⟨_, ks, rfl, rfl, upd_same, h64, fun ys hp hs => ?_⟩) fun u s1 ⟨x, H1, I1, _, q1⟩ => ?_))
  · rw [L2.upd_upd]
    exact q ys _ hp hs (I.hok.fresh (Nat.le_refl _))
  · exact wpAny_pure ⟨_, rfl, .ref s.heap.objs.size, H1, deep_back I.ok I1, rfl, q1⟩
theorem cr_sortedKeys (hcalm : X.calm = true) : CallR X (.builtin "sorted") rSrtK2 := fun pins s σ H xs us Q I r ⟨v, a, kvs, ks, ex, hv, hd, hks, h64, q⟩ => by
  subst ex
  rw [Vals.ref1 r]
  have view : PySem.W.KdlKeysView s.heap v a := (show ObjOk X.prog X.w H s.heap v (keysO v a) from I.hok v _ hv).1
  obtain ⟨_, lo, vs, rel, dd⟩ := dk_rd I.hok hd
  obtain ⟨ep, hat⟩ := dd.dictAt
  have hl : kvs.length = ks.length := by simpa using congrArg List.length hks
  refine Calls.call_function_entry PyProof.Rows.kind_sorted PyProof.Rows.plain_sorted PyProof.Rows.entry_sorted (PyProof.Rows.args_sorted1 _) ?_
  refine wpAny_bind (m := checkCount "sorted" 1 1 _) (wpAny_pure (wpAny_bind (PySem.W.kdu_collect (A := X.A.in1) (PySem.W.kdl_keys (knd := mixKind X.prog X.w) (kvs := vs) (ep := ep) (r := v)) (I.ok.hd hcalm) ⟨view, hat⟩ (by rw [← rel.length, hl, sizeLine_eq]; omega) fun h' tk acc hk hacc => ?_)))
  have got := L2.keys_at (us := acc.toList) (vs := vs) (by rw [Array.length_toList, hacc.1]) fun j v e => hacc.2 j v (by rw [← Array.getElem?_toList]; exact e)
  have ek : vs.map (fun p => kV p.1) = ks.map V.str := by
    have h1 : vs.map (fun p => kV p.1) = (kvs.map (·.1)).map kV := by rw [show kvs.map (·.1) = vs.map (·.1) from rel.keys, List.map_map]; rfl
    rw [h1, hks, List.map_map]
    rfl
  rw [ek] at got
  exact new_sorted (I.kept (t' := tk) hk) got h64 q
def srtKeysD (d : Dat) : Option (List Str) := match d with
  | .dct ks _ => match keysT ks with
    | some ys => if ys.length < 64 then some (ys.mergeSort strLe) else none
    | none => none
  | _ => none
theorem o_sortKeys (hc : X.calm = true) (hg : Gl X "sorted") (hm : X.mg "sorted" = none) (ha : PE X a (ofE X.K cm fa)) (hbase : attributeBase a "keys" X.env (eval a X.env) = eval a X.env := by rfl) (hline : (apos.endLine == cpos.line) = true := by rfl)
    (he : starEach [.Call (.Attribute a "keys" apos) [] [] cpos] X.env = (false, eval (.Call (.Attribute a "keys" apos) [] [] cpos) X.env) :: starEach [] X.env := by rfl) (hpl : (backTo pos (starEach [] X.env)).any (·.1) = false := by rfl) : PE X (.Call (.Name "sorted" p) [.Call (.Attribute a "keys" apos) [] [] cpos] [] pos) (ofO X.K cm (fun ρ => ((fa ρ).bind srtKeysD).bind fun ys => some (.ol ((ys.map Dat.str).map SV.fro)))) :=
  PE.imp (pe_callB (cr_sortedKeys hc) hg hm rfl (pa_cons (pe_keys ha hbase hline) pa_nil he) (by decide) (by decide) he hpl) fun σ H Q ⟨F, ρ, As, sv, rel, hf, k⟩ => by
    obtain ⟨ys, h1, h2⟩ := bind_some hf
    obtain ⟨d, e1, h3⟩ := bind_some h1
    cases h2
    refine ⟨F, ρ, As, d, rel, e1, fun v F1 H1 x1 r1 => ?_⟩
    unfold srtKeysD at h3
    split at h3
    · rename_i ks xs
      split at h3
      · rename_i ts et
        split at h3
        · rename_i h64
          cases h3
          obtain ⟨q, kvs, rfl, g, ek, z⟩ := r1.dct_inv
          refine ⟨q, kvs, rfl, same_rd x1.fh g, fun pv hp => ?_⟩
          have x2 : Ext F1 H1 F1 (upd H1 pv (keysO pv q)) := Ext.open x1.fh hp
          refine ⟨pv, q, kvs, ts, rfl, upd_same, same_rd x2.fh g, by rw [ek, keysT_is et], h64, fun zs p' pr hs hp' => ?_⟩
          have ez := sorted_is pr hs
          have x3 : Ext F1 H1 F1 (upd (upd H1 pv (keysO pv q)) p' (.lst (zs.map V.str))) := x2.trans (Ext.open x2.fh hp')
          refine k _ F1 _ [p'] (x1.trans x3) ?_ (by simp) (by simpa using x1.h.free ((same_new hp).free hp'))
          rw [← ez]
          exact .ol (x2.fh.free hp') upd_same (ros_fro (rs_strs zs))
        · cases h3
      · cases h3
    · cases h3
def sortKeysO (fa : Rho → Option Dat) : Rho → Option SV := fun ρ => ((fa ρ).bind srtKeysD).bind fun ys => some (.ol ((ys.map Dat.str).map SV.fro))
def sortKeysE (fa : Rho → Option Dat) : Rho → Option Dat := fun ρ => ((fa ρ).bind srtKeysD).bind fun ys => some (.lst (ys.map Dat.str))
theorem e_sortKeys (hc : X.calm = true) (hg : Gl X "sorted") (hm : X.mg "sorted" = none) (ha : PE X a (ofE X.K cm fa)) (hbase : attributeBase a "keys" X.env (eval a X.env) = eval a X.env := by rfl) (hline : (apos.endLine == cpos.line) = true := by rfl)
    (he : starEach [.Call (.Attribute a "keys" apos) [] [] cpos] X.env = (false, eval (.Call (.Attribute a "keys" apos) [] [] cpos) X.env) :: starEach [] X.env := by rfl) (hpl : (backTo pos (starEach [] X.env)).any (·.1) = false := by rfl) : PE X (.Call (.Name "sorted" p) [.Call (.Attribute a "keys" apos) [] [] cpos] [] pos) (ofE X.K cm (sortKeysE fa)) := by
  have h := o_to_e (f := fun ρ => ((fa ρ).bind srtKeysD).bind fun ys => some (ys.map Dat.str)) (PE.imp (o_sortKeys (cm := cm) (pos := pos) (p := p) hc hg hm ha hbase hline he hpl) fun σ H Q ⟨F, ρ, As, sv, rel, hf, k⟩ => ⟨F, ρ, As, sv, rel, by
    cases h1 : (fa ρ).bind srtKeysD with
    | none => simp only [h1] at hf; cases hf
    | some ys => simp only [h1, Option.bind_some, Option.map_some] at hf ⊢; exact hf, k⟩)
  refine PE.imp h fun σ H Q ⟨F, ρ, As, d, rel, hf, k⟩ => ⟨F, ρ, As, d, rel, ?_, k⟩
  unfold sortKeysE at hf
  cases h1 : (fa ρ).bind srtKeysD with
  | none => rw [h1] at hf; cases hf
  | some ys =>
    rw [h1] at hf
    simp only [h1, Option.bind_some, Option.map_some] at hf ⊢
    exact hf
end
end
end Pq

namespace Pq
open PySem PySem.Spec PyProof.Rows L2
noncomputable section
section
variable {K : PySem.W.Frag} {cm : CM} {F H : Hp}
mutual
theorem R.dp (e : Same F H) : ∀ {v : V} {d : Dat}, R K cm F v d → pl d = true → Dp K H v (py d)
  | _, _, .non, _ => by rw [py]; exact .non
  | _, _, .bl b, _ => by rw [py]; exact .bl b
  | _, _, .int i, _ => by rw [py]; exact .int i
  | _, _, .str x, _ => by rw [py]; exact .str x
  | _, _, .tup h r, p => by rw [py]; rw [pl] at p; exact .tup (same_sqT e h) (Rs.dp e r p)
  | _, _, .lst h r, p => by rw [py]; rw [pl] at p; exact .lst (.inl (same_rd e h)) (Rs.dp e r p)
  | _, _, .dct h k r, p => by cases p
  | _, _, .obj h k r, p => by cases p
  | _, _, .scr h r, p => by cases p
  | _, _, .cel h, p => by cases p
theorem Rs.dp (e : Same F H) : ∀ {vs : List V} {ds : List Dat}, Rs K cm F vs ds → pls ds = true → DpAll K H vs (pys ds)
  | _, _, .nil, _ => by rw [pys]; exact .nil
  | _, _, .cons r t, p => by
    rw [pls, Bool.and_eq_true] at p
    rw [pys]
    exact .cons (R.dp e r p.1) (Rs.dp e t p.2)
end
end
section
variable {X : Cx} {cm : CM} {e a b : Expr} {pos apos : Pos} {fa fb fc : Rho → Option Dat}
/-! ### in, not in: also of nested data -/
def deepB (d : Dat) (xs : List Dat) : Option Bool := @ite _ (pl d = true ∧ pls xs = true ∧ SeqAt.shaped (py d) = true ∧ SeqAt.shaped (.list (pys xs)) = true) (Classical.propDecidable _) (some ((pys xs).any fun z => PyData.eqv z (py d))) none
def inX (x y : Dat) : Option Dat := match x, y with
  | .tup us, .lst xs => (deepB (.tup us) xs).map Dat.bl
  | x, y => inD x y
def ninX (x y : Dat) : Option Dat := match x, y with
  | .tup us, .lst xs => (deepB (.tup us) xs).map fun k => .bl (!k)
  | x, y => ninD x y
theorem op_inX (hu : X.A.units + 70 < cLine) : OpR X (compareOp .In) (fun x y H Q => rInD X.K x y H Q ∨ rInA X false x y H Q) := (op_inD (by omega)).or (op_inA (by omega))
theorem op_ninX (hu : X.A.units + 70 < cLine) : OpR X (compareOp .NotIn) (fun x y H Q => rNotInD X.K x y H Q ∨ rInA X true x y H Q) := (op_notInD (by omega)).or (op_notInA (by omega))
theorem od_inX : OpD X cm (fun x y H Q => rInD X.K x y H Q ∨ rInA X false x y H Q) inX := fun F H x y a b d Q e r1 r2 hg k => by
  unfold inX at hg
  split at hg
  · rename_i us xs
    obtain ⟨kk, h1, rfl⟩ := map_some' hg
    unfold deepB at h1
    obtain ⟨⟨p1, p2, p3, p4⟩, rfl⟩ := ite_some h1
    exact .inl ⟨_, _, r1.dp e p1, by have := r2.dp e (show pl (.lst xs) = true by rw [pl]; exact p2); rw [py] at this; exact this, p3, p4, k _ F H (Ext.refl e) (.bl _)⟩
  · exact .inr (od_in F H x y a b d Q e r1 r2 hg k)
theorem od_ninX : OpD X cm (fun x y H Q => rNotInD X.K x y H Q ∨ rInA X true x y H Q) ninX := fun F H x y a b d Q e r1 r2 hg k => by
  unfold ninX at hg
  split at hg
  · rename_i us xs
    obtain ⟨kk, h1, rfl⟩ := map_some' hg
    unfold deepB at h1
    obtain ⟨⟨p1, p2, p3, p4⟩, rfl⟩ := ite_some h1
    exact .inl ⟨_, _, r1.dp e p1, by have := r2.dp e (show pl (.lst xs) = true by rw [pl]; exact p2); rw [py] at this; exact this, p3, p4, k _ F H (Ext.refl e) (.bl _)⟩
  · exact .inr (od_nin F H x y a b d Q e r1 r2 hg k)
theorem e_inX (hu : X.A.units + 70 < cLine) (ha : PE X a (ofE X.K cm fa)) (hb : PE X b (ofE X.K cm fb)) (hm : behindInMarks .In b = false := by rfl) : PE X (.Compare a [.In] [b] pos) (ofE X.K cm (bin inX fa fb)) := e_cmp (op_inX hu) od_inX ha hb hm
theorem e_ninX (hu : X.A.units + 70 < cLine) (ha : PE X a (ofE X.K cm fa)) (hb : PE X b (ofE X.K cm fb)) (hm : behindInMarks .NotIn b = false := by rfl) : PE X (.Compare a [.NotIn] [b] pos) (ofE X.K cm (bin ninX fa fb)) := e_cmp (op_ninX hu) od_ninX ha hb hm
theorem t_inX (hu : X.A.units + 70 < cLine) (ha : PE X a (ofE X.K cm fa)) (hb : PE X b (ofE X.K cm fb)) (hm : behindInMarks .In b = false := by rfl) : PT X (.Compare a [.In] [b] pos) (ofT X.K cm (tst (bin inX fa fb))) := t_cmp (op_inX hu) od_inX ha hb hm
theorem t_ninX (hu : X.A.units + 70 < cLine) (ha : PE X a (ofE X.K cm fa)) (hb : PE X b (ofE X.K cm fb)) (hm : behindInMarks .NotIn b = false := by rfl) : PT X (.Compare a [.NotIn] [b] pos) (ofT X.K cm (tst (bin ninX fa fb))) := t_cmp (op_ninX hu) od_ninX ha hb hm
/-! ### d.get(k, x) -/
def get2D (d k x : Dat) : Option Dat := match d with
  | .dct ks xs => (isK k).bind fun j => some ((look ks xs j).getD x)
  | _ => none
theorem e_get2 (hu : X.A.units + 1 < cLine) {c : Expr} (ha : PE X a (ofE X.K cm fa)) (hb : PE X b (ofE X.K cm fb)) (hc : PE X c (ofE X.K cm fc)) (m : M2 X a "get" apos b c pos := by exact ⟨rfl, rfl, rfl, rfl⟩) : PE X (.Call (.Attribute a "get" apos) [b, c] [] pos) (ofE X.K cm (fun ρ => (fa ρ).bind fun d => (fb ρ).bind fun k => (fc ρ).bind fun x => get2D d k x)) := PE.imp (pe_dget2 hu ha hb hc m) fun σ H Q ⟨F, ρ, As, d, rel, hf, k⟩ => by
  obtain ⟨x, e1, hf1⟩ := bind_some hf
  obtain ⟨y, e2, hf2⟩ := bind_some hf1
  obtain ⟨w, e3, hf3⟩ := bind_some hf2
  refine ⟨F, ρ, As, x, rel, e1, fun v F1 H1 x1 r1 => ?_⟩
  unfold get2D at hf3
  split at hf3
  · obtain ⟨j, e4, hf4⟩ := bind_some hf3
    cases hf4
    obtain ⟨q, kvs, rfl, g, ek, z⟩ := r1.dct_inv
    have hd : IsD H1 q := .inl ⟨_, same_rd x1.fh g⟩
    refine ⟨q, rfl, hd, F1, ρ, As, _, rel.ext x1, e2, fun u F2 H2 x2 r2 => ⟨F2, ρ, As, _, rel.ext (x1.trans x2), e3, fun u3 F3 H3 x3 r3 => ?_⟩⟩
    have ew := isK_V r2 e4
    subst ew
    subst ek
    refine ⟨valV kvs j, .inl ⟨kvs, j, same_rd (x2.f.trans (x3.f.trans x3.fh)) g, rfl, rfl⟩, ?_⟩
    rcases look_get (k := j) z with ⟨l1, l2⟩ | ⟨u', x', l1, l2, l3⟩
    · rw [l2]
      rw [l1] at k
      exact k u3 F3 H3 (x1.trans (x2.trans x3)) r3
    · rw [l1]
      rw [l2] at k
      exact k u' F3 H3 (x1.trans (x2.trans x3)) (l3.mono (x2.f.trans x3.f))
  · cases hf3
end
end
end Pq

namespace Pq
open PySem PySem.Spec PyProof.Rows L2
noncomputable section
/-! ### settling -/
mutual
def stV (g : Sto → Nat → Option (Sto × Dat)) (z : Sto) : Dat → Option (Sto × Dat)
  | .non => some (z, .non) | .bl b => some (z, .bl b) | .int i => some (z, .int i) | .str x => some (z, .str x)
  | .tup xs => (stVs g z xs).bind fun p => some (p.1, .tup p.2)
  | .lst xs => (stVs g z xs).bind fun p => some (p.1, .lst p.2)
  | .dct ks xs => (stVs g z xs).bind fun p => some (p.1, .dct ks p.2)
  | .obj c fs xs => (stVs g z xs).bind fun p => some (p.1, .obj c fs p.2)
  | .scr xs => (stVs g z xs).bind fun p => some (p.1, .scr p.2)
  | .cel k => g z k
def stVs (g : Sto → Nat → Option (Sto × Dat)) (z : Sto) : List Dat → Option (Sto × List Dat)
  | [] => some (z, [])
  | x :: xs => (stV g z x).bind fun p => (stVs g p.1 xs).bind fun q => some (q.1, p.2 :: q.2)
end
/-- the cell dies -/
def die (z : Sto) (k : Nat) (d : Dat) : Option (Sto × Dat) := match z[k]? with
  | some c => if isGone c = true then none else some (z.set k .gone, d)
  | none => none
def stK (g : Sto → Nat → Option (Sto × Dat)) (z : Sto) (k : Nat) : Cel → Option (Sto × Dat)
  | .lst xs => (stVs g z xs).bind fun p => die p.1 k (.lst p.2)
  | .dct ks xs => (stVs g z xs).bind fun p => die p.1 k (.dct ks p.2)
  | .obj c fs xs => (stVs g z xs).bind fun p => die p.1 k (.obj c fs p.2)
  | .err _ => none
  | .gone => none
def stN : Nat → Sto → Nat → Option (Sto × Dat)
  | 0, _, _ => none
  | n + 1, z, k => (z[k]?).bind (stK (stN n) z k)
section
variable {K : PySem.W.Frag} {H : Hp}
def StOk (K : PySem.W.Frag) (H : Hp) (g : Sto → Nat → Option (Sto × Dat)) : Prop := ∀ (cm : CM) (F : Hp) (k : Nat) (a : Addr) (z' : Sto) (d' : Dat), Same F H → Cells K cm F H → cm.t k = some a → g cm.z k = some (z', d') → ∃ cm' F', Grow K cm F cm' F' H z' ∧ R K cm' F' (.ref a) d'
mutual
theorem R.settle {g : Sto → Nat → Option (Sto × Dat)} (hg : StOk K H g) : ∀ {cm : CM} {F : Hp} {v : V} {d : Dat} {z' : Sto} {d' : Dat}, Same F H → Cells K cm F H → R K cm F v d → stV g cm.z d = some (z', d') → ∃ cm' F', Grow K cm F cm' F' H z' ∧ R K cm' F' v d'
  | cm, F, _, _, _, _, e, cl, .non, h => by cases h; exact ⟨cm, F, Grow.refl e cl, .non⟩
  | cm, F, _, _, _, _, e, cl, .bl b, h => by cases h; exact ⟨cm, F, Grow.refl e cl, .bl b⟩
  | cm, F, _, _, _, _, e, cl, .int i, h => by cases h; exact ⟨cm, F, Grow.refl e cl, .int i⟩
  | cm, F, _, _, _, _, e, cl, .str x, h => by cases h; exact ⟨cm, F, Grow.refl e cl, .str x⟩
  | cm, F, _, _, _, _, e, cl, .tup q r, h => by
    rw [stV] at h
    obtain ⟨p, h1, h⟩ := bind_some h
    cases h
    obtain ⟨cm', F', g1, r1⟩ := Rs.settle hg e cl r h1
    exact ⟨cm', F', g1, .tup (same_sqT g1.f q) r1⟩
  | cm, F, _, _, _, _, e, cl, .lst q r, h => by
    rw [stV] at h
    obtain ⟨p, h1, h⟩ := bind_some h
    cases h
    obtain ⟨cm', F', g1, r1⟩ := Rs.settle hg e cl r h1
    exact ⟨cm', F', g1, .lst (same_rd g1.f q) r1⟩
  | cm, F, _, _, _, _, e, cl, .dct q k r, h => by
    rw [stV] at h
    obtain ⟨p, h1, h⟩ := bind_some h
    cases h
    obtain ⟨cm', F', g1, r1⟩ := Rs.settle hg e cl r h1
    exact ⟨cm', F', g1, .dct (same_rd g1.f q) k r1⟩
  | cm, F, _, _, _, _, e, cl, @R.obj _ _ _ a dx c fvs fs xs q k r, h => by
    rw [stV] at h
    obtain ⟨p, h1, h⟩ := bind_some h
    cases h
    obtain ⟨cm', F', g1, r1⟩ := Rs.settle hg e cl r h1
    exact ⟨cm', F', g1, .obj (dx := dx) (fvs := fvs) (by rw [show cm' c = cm c from congrFun g1.c c]; exact g1.f _ _ q) k r1⟩
  | cm, F, _, _, _, _, e, cl, .scr q r, h => by
    rw [stV] at h
    obtain ⟨p, h1, h⟩ := bind_some h
    cases h
    obtain ⟨cm', F', g1, r1⟩ := Rs.settle hg e cl r h1
    exact ⟨cm', F', g1, .scr (g1.f.seq q) r1⟩
  | cm, F, _, _, _, _, e, cl, .cel q, h => hg _ _ _ _ _ _ e cl q h
theorem Rs.settle {g : Sto → Nat → Option (Sto × Dat)} (hg : StOk K H g) : ∀ {cm : CM} {F : Hp} {vs : List V} {ds : List Dat} {z' : Sto} {ds' : List Dat}, Same F H → Cells K cm F H → Rs K cm F vs ds → stVs g cm.z ds = some (z', ds') → ∃ cm' F', Grow K cm F cm' F' H z' ∧ Rs K cm' F' vs ds'
  | cm, F, _, _, _, _, e, cl, .nil, h => by cases h; exact ⟨cm, F, Grow.refl e cl, .nil⟩
  | cm, F, _, _, _, _, e, cl, .cons r t, h => by
    rw [stVs] at h
    obtain ⟨p, h1, h⟩ := bind_some h
    obtain ⟨q, h2, h⟩ := bind_some h
    cases h
    obtain ⟨cm1, F1, g1, r1⟩ := R.settle hg e cl r h1
    rw [← g1.z] at h2
    obtain ⟨cm2, F2, g2, r2⟩ := Rs.settle hg g1.fh g1.cel (g1.rs t) h2
    exact ⟨cm2, F2, g1.trans g2, .cons (g2.r r1) r2⟩
end
theorem die_ok {cm : CM} {F : Hp} {k : Nat} {a : Addr} {d : Dat} {z' : Sto} {d' : Dat} (e : Same F H) (cl : Cells K cm F H) (hk : cm.t k = some a) (h : die cm.z k d = some (z', d')) (r : ∀ cm' F', cm'.c = cm.c → (∀ j b, cm.t j = some b → cm'.t j = some b) → Same F F' → F' a = H a → R K cm' F' (.ref a) d) : ∃ cm' F', Grow K cm F cm' F' H z' ∧ R K cm' F' (.ref a) d' := by
  unfold die at h
  split at h
  · rename_i c hz
    split at h
    · cases h
    · rename_i hc
      cases h
      have hn := (cl.get hk hz fun z => hc (by rw [z]; rfl)).1
      have g := Grow.dead e cl hk hn
      exact ⟨_, _, g, r _ _ g.c g.t g.f (plus_in List.mem_cons_self)⟩
  · cases h
theorem stN_ok : ∀ n : Nat, StOk K H (stN n)
  | 0 => fun cm F k a z' d' e cl hk h => by cases h
  | n + 1 => fun cm F k a z' d' e cl hk h => by
    obtain ⟨c, hz, h⟩ := bind_some (show (cm.z[k]?).bind (stK (stN n) cm.z k) = some (z', d') from h)
    cases c with
    | gone => cases h
    | err _ => cases h
    | lst xs =>
      obtain ⟨hn, hc⟩ := cl.get hk hz
      obtain ⟨vs, h1, h2⟩ := hc.lst_inv
      obtain ⟨p, h3, h4⟩ := bind_some (show (stVs (stN n) cm.z xs).bind (fun p => die p.1 k (.lst p.2)) = some (z', d') from h)
      obtain ⟨cm1, F1, g1, r1⟩ := Rs.settle (stN_ok n) e cl h2 h3
      rw [← g1.z] at h4
      obtain ⟨cm2, F2, g2, r2⟩ := die_ok g1.fh g1.cel (g1.t _ _ hk) h4 fun cm' F' hc ht hf ha => .lst (.inl (ha.trans h1)) (r1.cmono hf hc ht)
      exact ⟨cm2, F2, g1.trans g2, r2⟩
    | dct ks xs =>
      obtain ⟨hn, hc⟩ := cl.get hk hz
      obtain ⟨kvs, h1, hk', h2⟩ := hc.dct_inv
      obtain ⟨p, h3, h4⟩ := bind_some (show (stVs (stN n) cm.z xs).bind (fun p => die p.1 k (.dct ks p.2)) = some (z', d') from h)
      obtain ⟨cm1, F1, g1, r1⟩ := Rs.settle (stN_ok n) e cl h2 h3
      rw [← g1.z] at h4
      obtain ⟨cm2, F2, g2, r2⟩ := die_ok g1.fh g1.cel (g1.t _ _ hk) h4 fun cm' F' hc ht hf ha => .dct (.inl (ha.trans h1)) hk' (r1.cmono hf hc ht)
      exact ⟨cm2, F2, g1.trans g2, r2⟩
    | obj c fs xs =>
      obtain ⟨hn, hc⟩ := cl.get hk hz
      obtain ⟨dx, fvs, h1, hk', h2⟩ := hc.obj_inv
      obtain ⟨p, h3, h4⟩ := bind_some (show (stVs (stN n) cm.z xs).bind (fun p => die p.1 k (.obj c fs p.2)) = some (z', d') from h)
      obtain ⟨cm1, F1, g1, r1⟩ := Rs.settle (stN_ok n) e cl h2 h3
      have ec := g1.c
      rw [← g1.z] at h4
      obtain ⟨cm2, F2, g2, r2⟩ := die_ok g1.fh g1.cel (g1.t _ _ hk) h4 fun cm' F' hc ht hf ha => .obj (dx := dx) (fvs := fvs) (by rw [show cm' c = cm c from congrFun (hc.trans ec) c]; exact ha.trans h1) hk' (r1.cmono hf hc ht)
      exact ⟨cm2, F2, g1.trans g2, r2⟩
end
section
variable {X : Cx} {c : Str → Addr} {W : L2.WX} {e a b o : Expr} {es : List Expr} {st : Stmt} {sts : List Stmt} {pos pos' apos cpos p : Pos} {fo fa fb : Sto → Rho → EZ Dat} {bd : Sto → Rho → RZ}
def stl (z : Sto) (d : Dat) : Option (Sto × Dat) := stV (stN 8) z d
/-- a value, settled -/
def stlE (f : Sto → Rho → EZ Dat) (z : Sto) (ρ : Rho) : EZ Dat := (f z ρ).bind fun z1 d => match stl z1 d with
  | some (z', d') => .ok z' d'
  | none => .bad
theorem z_stl (h : PE X e (ofZE X.K c W fa)) : PE X e (ofZE X.K c W (stlE fa)) := PE.imp h fun σ H Q ⟨cm, F, ρ, hc, rel, q⟩ =>
  ⟨cm, F, ρ, hc, rel, PoE.mono (PoE.bind q) (fun cm1 F1 H1 d z1 g1 q1 v r => by
    split at q1
    · rename_i z' d' hs
      obtain ⟨cm2, F2, g2, r2⟩ := R.settle (stN_ok 8) g1.fh g1.cel r hs
      exact q1 cm2 F2 H1 g2 v r2
    · exact q1.elim) fun _ _ _ _ _ _ h => h⟩
/-- a place, settled ahead of a statement -/
def stlTo (i : Nat) (b : Sto → Rho → RZ) (z : Sto) (ρ : Rho) : RZ := match (rd i ρ).bind (stl z) with
  | some (z', d') => b z' (ρ.set i (some (.fro d')))
  | none => .bad
theorem z_stlTo (i : Nat) (h : PS X st (ofZS X.K c W bd)) : PS X st (ofZS X.K c W (stlTo i bd)) := PS.imp h fun D σ H ⟨cm0, F0, z, ρ, hc, ⟨cm, F, g, rel⟩, q⟩ => by
  have ez := g.z
  subst ez
  unfold stlTo at q
  split at q
  · rename_i z' d' hs
    obtain ⟨d, e1, hs⟩ := bind_some hs
    obtain ⟨v, h1, r1⟩ := rel.rd e1
    obtain ⟨cm2, F2, g2, r2⟩ := R.settle (stN_ok 8) rel.fh rel.cel r1 hs
    have rs := (rel.grow g2).setZ (i := i) r2
    rw [set_id h1] at rs
    exact ⟨cm0, F0, z', _, hc, ⟨cm2, F2, g.trans g2, rs⟩, q⟩
  · exact q.elim
/-! ### a snapshot's new list, put into a name on one line -/
theorem zasgO_of {i : Nat} {f : Rho → Option SV} : ∀ D σ H, ofZS X.K c W (asgZ i (snF f)) D σ H → tAsg (ofO X.K ⟨c, fun _ => none, []⟩ f) (gName i) D σ H := fun D σ H ⟨cm0, F0, z, ρ, hc, ⟨cm, F, g, rel⟩, q⟩ => by
  have ez := g.z
  subst ez
  unfold asgZ snF at q
  cases hf : f (snR cm.z ρ) with
  | none => rw [hf] at q; exact q.elim
  | some sv =>
    rw [hf] at q
    by_cases ht : tfv sv = true
    · simp only [ht, ↓reduceIte] at q
      have rs := rel.snap
      have ep := pl_of (g.c.trans hc)
      rw [ep] at rs
      refine ⟨_, _, _, sv, rs, hf, fun v F' H' A x r nd nA => ?_⟩
      rw [← ep] at r
      have gb := back_grow rel.fh rel.cel x
      have p := settle gb.fh gb.cel (r.back rel.cel x.f ht) (not_cell rel.cel nA)
      have g2 := gb.trans p.1
      exact q _ _ ⟨cm, _, g.trans g2, (rel.grow g2).setZ p.2⟩
    · simp only [ht] at q
      exact q.elim
section
variable {elt tg iter : Expr} {ifs : List Expr} {scope : Scope} {own : List (Str × Nat)} {it : Rho → Option (List Dat)} {is : List Nat} {h : Dat → Rho → Option Rho} {tc : Rho → Option Bool} {fe : Rho → Option Dat} {i : Nat} {y : Str} {py spos : Pos}
theorem z_setLc {vs : List Nat} (hv : own.map (·.2) = vs) (hc : X.calm = true) (hN : X.N.Nodup) (hy : X.N[i]? = some y) (hyl : X.env.scope.names.lookup y = some .local) (hsw : swapsWith (.ListComp elt [⟨tg, iter, ifs, 0⟩] scope pos) (some (.Name y py)) spos.line X.env = pure true) (hi : PI X tg iter (ofI X.K ⟨c, fun _ => none, []⟩ it)) (ok : BlkOk X.N X.env.scope scope own) (hsub : ∀ i ∈ is, i ∈ own.map (·.2))
    (hg : ∀ (s : Shared) (H : Hp) (C : Addr) (cl : List (Str × Addr)) (fp : List Addr), PG (X.blk s H scope (compEnvC scope cl C X.env) fp) tg (ofG X.K ⟨c, fun _ => none, []⟩ h is)) (ht : ∀ (s : Shared) (H : Hp) (C : Addr) (cl : List (Str × Addr)) (fp : List Addr), PTs (X.blk s H scope (compEnvC scope cl C X.env) fp) ifs (ofT X.K ⟨c, fun _ => none, []⟩ tc))
    (he : ∀ (s : Shared) (H : Hp) (C : Addr) (cl : List (Str × Addr)) (fp : List Addr), PE (X.blk s H scope (compEnvC scope cl C X.env) fp) elt (ofE X.K ⟨c, fun _ => none, []⟩ fe)) (hs : ∀ x, foldedSetIterable iter X.env x = pure x := by intro _; rfl) :
    PS X (.Assign [.Name y py] (.ListComp elt [⟨tg, iter, ifs, 0⟩] scope pos) spos) (ofZS X.K c W (asgZ i (snF (lcO it vs h tc fe)))) := by
  subst hv
  exact PS.imp (ps_setLc hc hN hy hyl hsw hi ok hg ht he hs) fun D σ H q => lco_of hsub σ H _ (zasgO_of D σ H q)
end
/-! ### d.setdefault(k, x), d.get(k), d.get(k, x), d.pop(k, x) -/
def sdfD (z : Sto) (o kd d : Dat) : EZ Dat := match o, isK kd with
  | .cel k, some j => match z[k]? with
    | some (.dct ks xs) => @ite _ (ks.length < sizeLine) (Classical.propDecidable _) (match getA (ks.zip xs) j with
      | some d' => .ok z d'
      | none => .ok (z.set k (dctA (putA (ks.zip xs) j d))) d) .bad
    | _ => .bad
  | _, _ => .bad
def sdfZ (fo fa fb : Sto → Rho → EZ Dat) (z : Sto) (ρ : Rho) : EZ Dat := (fo z ρ).bind fun z1 o => if isDc z1 o = true then (fa z1 ρ).bind fun z2 kd => (fb z2 ρ).bind fun z3 d => sdfD z3 o kd d else .bad
theorem z_setd (ho : PE X o (ofZE X.K c W fo)) (ha : PE X a (ofZE X.K c W fa)) (hb : PE X b (ofZE X.K c W fb)) (m : M2 X o "setdefault" apos a b cpos := by exact ⟨rfl, rfl, rfl, rfl⟩) : PE X (.Call (.Attribute o "setdefault" apos) [a, b] [] cpos) (ofZE X.K c W (sdfZ fo fa fb)) :=
  PE.imp (pe_dsetd ho ha hb m) fun σ H Q ⟨cm, F, ρ, hc, rel, q⟩ => ⟨cm, F, ρ, hc, rel, PoE.mono (PoE.bind q) (fun cm1 F1 H1 d z1 g1 q1 v r => by
    by_cases hi : isDc cm1.z d = true
    · rw [if_pos hi] at q1
      obtain ⟨p, rfl, hp⟩ := isDc_at g1.cel r hi
      refine ⟨p, rfl, hp, cm1, F1, ρ, g1.c.trans hc, rel.grow g1, PoE.mono (PoE.bind q1) (fun cm2 F2 H2 kd z2 g2 q2 w rk => ?_) fun _ _ _ _ _ _ h => h⟩
      refine ⟨cm2, F2, ρ, g2.c.trans (g1.c.trans hc), (rel.grow g1).grow g2, PoE.mono (PoE.bind q2) (fun cm3 F3 H3 d3 z3 g3 q3 u ru => ?_) fun _ _ _ _ _ _ h => h⟩
      have r3 := (g2.trans g3).r r
      have rk3 := g3.r rk
      unfold sdfD at q3
      split at q3
      · rename_i k j ej
        have ew := isK_V rk3 ej
        subst ew
        split at q3
        · rename_i ks xs hz
          obtain ⟨p', kvs, ep, ht, h1, h2, h3⟩ := g3.cel.dct r3 hz
          cases ep
          have hle : kvs.length = ks.length := by rw [← List.length_map (f := (·.1)), h2]
          by_cases hl : ks.length < sizeLine
          · rw [if_pos hl] at q3
            refine ⟨kvs, j, h1, rfl, by rw [hle]; exact hl, fun u' hu => ?_, fun hu => ?_⟩
            · cases hg : getA (ks.zip xs) j with
              | some d' =>
                rw [hg] at q3
                obtain ⟨y, h4, h5⟩ := h3.get hg
                rw [h4] at hu
                cases hu
                exact q3 cm3 F3 H3 (Grow.refl g3.fh g3.cel) _ h5
              | none =>
                rw [h3.no hg] at hu
                cases hu
            · cases hg : getA (ks.zip xs) j with
              | some d' =>
                obtain ⟨y, h4, h5⟩ := h3.get hg
                rw [h4] at hu
                cases hu
              | none =>
                rw [hg] at q3
                exact q3 _ F3 _ (Grow.setD g3.fh g3.cel ht (h3.put ru)) u (R.cmono (cm := cm3) (cm' := ⟨cm3.c, cm3.t, cm3.z.set k (dctA (putA (ks.zip xs) j d3))⟩) (Same.refl F3) rfl (fun _ _ h => h) ru)
          · rw [if_neg hl] at q3
            exact q3.elim
        · exact q3.elim
      · exact q3.elim
    · rw [if_neg hi] at q1
      exact q1.elim) fun _ _ _ _ _ _ h => h⟩
end
end
end Pq

namespace Pq
open PySem PySem.Spec PyProof.Rows L2

/-! ### one's own place, told as it is; one's own place, looked at for what is new -/
mutual
/-- nothing but scalars in what is one's own -/
def dop : SV → Bool
  | .fro d => isScal d
  | .ol xs => dops xs
  | .od _ xs => dops xs
  | .oo _ _ _ xs => dops xs
  | .tp xs => dops xs
def dops : List SV → Bool
  | [] => true
  | x :: xs => dop x && dops xs
end
def retV (i : Nat) : Rho → Res := fun ρ => match ρ[i]? with
  | some (some sv) => .ret sv
  | _ => .bad
def lookN (i : Nat) (f : Rho → Option SV) : Rho → Option Dat := fun ρ => (f (frzAt i ρ)).bind fun sv => if dop sv = true then some (frz sv) else none
section
variable {K : PySem.W.Frag} {cm : CM} {F F1 H H1 : Hp}
mutual
theorem RO.scal (e : Same F H1) : ∀ {v : V} {x : SV} {A : List Addr}, RO K cm F1 H1 v x A → dop x = true → R K cm (plus F H1 A) v (Pq.frz x)
  | _, _, _, .fro r, h => by rw [Pq.frz]; exact r.scal h
  | _, _, _, @RO.ol _ _ _ _ a vs xs A n h r, d => by
    rw [dop] at d
    rw [Pq.frz]
    exact .lst (.inl (by rw [plus_in List.mem_cons_self]; exact h)) ((ROs.scal e r d).mono (plus_mono e fun b hb => List.mem_cons_of_mem _ hb))
  | _, _, _, @RO.od _ _ _ _ a kvs ks xs A n h k r, d => by
    rw [dop] at d
    rw [Pq.frz]
    exact .dct (.inl (by rw [plus_in List.mem_cons_self]; exact h)) k ((ROs.scal e r d).mono (plus_mono e fun b hb => List.mem_cons_of_mem _ hb))
  | _, _, _, @RO.oo _ _ _ _ a dx c fvs fs xs A n h k r, d => by
    rw [dop] at d
    rw [Pq.frz]
    exact .obj (by rw [plus_in List.mem_cons_self]; exact h) k ((ROs.scal e r d).mono (plus_mono e fun b hb => List.mem_cons_of_mem _ hb))
  | _, _, _, @RO.tp _ _ _ _ a vs xs A n h r, d => by
    rw [dop] at d
    rw [Pq.frz]
    exact .tup (.inl (.inl (by rw [plus_in List.mem_cons_self]; exact h))) ((ROs.scal e r d).mono (plus_mono e fun b hb => List.mem_cons_of_mem _ hb))
theorem ROs.scal (e : Same F H1) : ∀ {vs : List V} {xs : List SV} {A : List Addr}, ROs K cm F1 H1 vs xs A → dops xs = true → Rs K cm (plus F H1 A) vs (frzs xs)
  | _, _, _, .nil, _ => by rw [frzs]; exact .nil
  | _, _, _, @ROs.cons _ _ _ _ v vs x xs A B r t, d => by
    rw [dops, Bool.and_eq_true] at d
    rw [frzs]
    exact .cons ((RO.scal e r d.1).mono (plus_mono e fun b hb => List.mem_append_left _ hb)) ((ROs.scal e t d.2).mono (plus_mono e fun b hb => List.mem_append_right _ hb))
end
end
section
variable {X : Cx} {cm : CM} {W : L2.WX} {e : Expr} {f : Rho → Option SV} {pos : Pos}
theorem p_retV (i : Nat) (h : PE X e (tVar i)) : PS X (.Return (some e) pos) (ofS X.K cm W (retV i)) := PS.imp (ps_ret h) fun D σ H ⟨F0, H0, ρ, ⟨F, As, rel, x, n⟩, q⟩ => by
  unfold retV at q
  split at q
  · rename_i sv e1
    obtain ⟨v, h1, h2⟩ := rel.at_ i sv e1
    exact ⟨v, h1, q v F H (As i) x h2 (rel.nd i) (n i)⟩
  · exact q.elim
theorem e_lookN (i : Nat) (h : PE X e (ofO X.K cm f)) : PE X e (ofE X.K cm (lookN i f)) := PE.imp h fun σ H Q ⟨F, ρ, As, d, rel, hf, q⟩ => by
  obtain ⟨sv, e1, hf⟩ := bind_some hf
  obtain ⟨s, rfl⟩ := ite_some hf
  refine ⟨_, _, _, sv, rel.frz i, e1, fun v F1 H1 A x1 r1 nd nA => ?_⟩
  have e2 : Same F H1 := rel.fh.trans x1.h
  refine q v (plus F H1 A) H1 ⟨plus_same fun a ha => rel.fh.free (nA a ha), x1.h, plus_le e2, fun a o h z => ?_⟩ (r1.scal e2 s)
  by_cases ha : a ∈ A
  · exact nA a ha
  · rw [plus_out ha, z] at h
    cases h
end
end Pq

namespace Pq
open PySem PySem.Spec PyProof.Rows L2
noncomputable section
/-! ### list(d) of a dict -/
def listKD : List Dat → Option Dat
  | [.dct ks _] => some (.lst (ks.map kyD))
  | _ => none
def listKO : List Dat → Option SV
  | [.dct ks _] => some (.ol ((ks.map kyD).map SV.fro))
  | _ => none
def rListK : List V → Hp → VK → Prop := fun xs H Q => ∃ (a : Addr) (kvs : List (Key × V)), xs = [.ref a] ∧ Rd H a (.dK kvs) ∧ ∀ p, H p = none → Q (.ref p) (upd H p (.lst (kvs.map fun kv => kV kv.1)))
section
variable {X : Cx} {cm : CM} {e : Expr} {es : List Expr} {fs : Rho → Option (List Dat)} {p pos : Pos}
theorem keys_Rs {K : PySem.W.Frag} {F : Hp} : ∀ {kvs : List (Key × V)} {ks : List Key}, kvs.map (·.1) = ks → Rs K cm F (kvs.map fun kv => kV kv.1) (ks.map kyD)
  | [], _, h => by subst h; exact .nil
  | kv :: kvs, _, h => by
    subst h
    exact .cons (kyD_R _) (keys_Rs rfl)
theorem cd_listK : ClD X cm rListK listKD := fun F H vs ds d Q e rs hg k => by
  unfold listKD at hg
  split at hg
  · cases hg
    obtain ⟨v, rfl, r⟩ := rs.one
    obtain ⟨a, kvs, rfl, h, ek, q⟩ := r.dct_inv
    exact ⟨a, kvs, rfl, same_rd e h, new_lst e (keys_Rs ek) k⟩
  · cases hg
theorem co_listK : ClO X cm rListK listKO := fun F H vs ds d Q e rs hg k => by
  unfold listKO at hg
  split at hg
  · cases hg
    obtain ⟨v, rfl, r⟩ := rs.one
    obtain ⟨a, kvs, rfl, h, ek, q⟩ := r.dct_inv
    exact ⟨a, kvs, rfl, same_rd e h, own_lst e (keys_Rs ek) k⟩
  · cases hg
theorem e_listK (hc : X.calm = true) (hg : Gl X "list") (hm : X.mg "list" = none) (ha : PA X (e :: es) (ofA X.K cm fs)) (he : starEach (e :: es) X.env = (false, eval e X.env) :: starEach es X.env := by rfl) (hpl : (backTo pos (starEach es X.env)).any (·.1) = false := by rfl) :
    PE X (.Call (.Name "list" p) (e :: es) [] pos) (ofE X.K cm (app listKD fs)) := e_callT (call_listD hc) cd_listK hg hm (by decide +kernel) ha (by decide) (by decide) he hpl
theorem o_listK (hc : X.calm = true) (hg : Gl X "list") (hm : X.mg "list" = none) (ha : PA X (e :: es) (ofA X.K cm fs)) (he : starEach (e :: es) X.env = (false, eval e X.env) :: starEach es X.env := by rfl) (hpl : (backTo pos (starEach es X.env)).any (·.1) = false := by rfl) :
    PE X (.Call (.Name "list" p) (e :: es) [] pos) (ofO X.K cm (appO listKO fs)) := o_callT (call_listD hc) co_listK hg hm (by decide +kernel) ha (by decide) (by decide) he hpl
end
end
end Pq

namespace Pq
open PySem PySem.Spec PyProof.Rows L2
noncomputable section
/-! ### place[k] = what is new, a dict of one's own; what stood there is dropped -/
section
variable {K : PySem.W.Frag} {cm : CM} {F F1 H H1 : Hp} {σ : L2.St} {ρ : Rho} {As : Nat → List Addr}
theorem rel_swap (rel : Rel K cm F H σ ρ As) (x1 : Ext F H F1 H1) {i : Nat} {a : Addr} {o : HO} {v : V} {sv sv' : SV} {A L : List Addr} (ha : a ∈ As i) (hi : ρ[i]? = some (some sv)) (hv : σ[i]? = some (some v)) (nA : ∀ b ∈ A, H b = none) (own : ∀ b ∈ A, F1 b = none ∧ ∃ o, H1 b = some o)
    (sub : ∀ b ∈ L, b ∈ As i ∨ b ∈ A) (ndL : L.Nodup) (r : RO K cm F1 (upd H1 a o) v sv' L) : Rel K cm F1 (upd H1 a o) σ (ρ.set i (some sv')) (fun j => if j = i then L else As j) := by
  have r1 := rel.ext x1
  have out : ∀ b ∈ A, ∀ j, b ∉ As j := fun b hb j hj => by
    obtain ⟨_, o, q⟩ := rel.own j b hj
    rw [nA b hb] at q
    cases q
  have outA : ∀ j, ∀ b ∈ (if j = i then L else As j), ∀ k, cm.t k ≠ some b := fun j b hb k hk => by
    have nA' : b ∈ A → False := fun z => by
      obtain ⟨o, q⟩ := rel.cel.own_ hk
      rw [nA b z] at q
      cases q
    split at hb
    · rcases sub b hb with z | z
      · exact rel.out i b z k hk
      · exact nA' z
    · exact rel.out j b hb k hk
  refine ⟨?_, ?_, fun j sv1 h => ?_, fun j => ?_, fun j k hjk b hb hb' => ?_, fun j b hb => ?_, r1.cel.put_ (rel.out i a ha), outA⟩
  · rw [List.length_set]; exact rel.len
  · intro b u h
    have : b ≠ a := fun z => by
      rw [z, (r1.own i a ha).1] at h
      cases h
    rw [upd_ne this]
    exact r1.fh b u h
  · by_cases hj : i = j
    · subst hj
      have hl : i < ρ.length := (List.getElem?_eq_some_iff.mp hi).1
      rw [List.getElem?_set_self hl] at h
      cases h
      exact ⟨v, hv, by rw [if_pos rfl]; exact r⟩
    · rw [List.getElem?_set_ne hj] at h
      obtain ⟨w, h1, h2⟩ := r1.at_ j sv1 h
      exact ⟨w, h1, by rw [if_neg (fun z => hj z.symm)]; exact h2.out (rel.sep i j hj a ha)⟩
  · by_cases hj : j = i
    · simp only [if_pos hj]
      exact ndL
    · simp only [if_neg hj]; exact rel.nd j
  · by_cases hj : j = i
    · simp only [if_pos hj] at hb
      have hk : k ≠ i := fun z => hjk (hj.trans z.symm)
      simp only [if_neg hk] at hb'
      rcases sub b hb with z | z
      · exact rel.sep i k (fun z => hk z.symm) b z hb'
      · exact out b z k hb'
    · simp only [if_neg hj] at hb
      by_cases hk : k = i
      · simp only [if_pos hk] at hb'
        rcases sub b hb' with z | z
        · exact rel.sep j i hj b hb z
        · exact out b z j hb
      · simp only [if_neg hk] at hb'
        exact rel.sep j k hjk b hb hb'
  · have base : F1 b = none ∧ ∃ o, H1 b = some o := by
      by_cases hj : j = i
      · simp only [if_pos hj] at hb
        rcases sub b hb with z | z
        · exact r1.own i b z
        · exact own b z
      · simp only [if_neg hj] at hb
        exact r1.own j b hb
    refine ⟨base.1, ?_⟩
    by_cases hb2 : b = a
    · exact ⟨o, by rw [hb2]; exact upd_same⟩
    · obtain ⟨o', ho'⟩ := base.2
      exact ⟨o', by rw [upd_ne hb2]; exact ho'⟩
theorem ROs.cut {x : SV} : ∀ {vs : List V} {xs : List SV} {A : List Addr} {j : Nat}, ROs K cm F H vs xs A → xs[j]? = some x → ∃ w A1 B A2, vs[j]? = some w ∧ A = A1 ++ (B ++ A2) ∧ RO K cm F H w x B ∧ ∀ (F1 H1 : Hp) (b : Addr) (o : HO) (x' : SV) (B' : List Addr), Ext F H F1 H1 → b ∉ A1 → b ∉ A2 → RO K cm F1 (upd H1 b o) w x' B' → ROs K cm F1 (upd H1 b o) vs (xs.set j x') (A1 ++ (B' ++ A2))
  | _, _, _, 0, .cons (v := v) (A := A) (B := B) r t, e => by
    simp at e
    subst e
    exact ⟨v, [], A, B, rfl, rfl, r, fun F1 H1 b o x' B' e _ h2 r' => by rw [List.nil_append]; exact ROs.cons r' ((t.ext e).out h2)⟩
  | _, _, _, j + 1, .cons (A := A) (B := B) r t, e => by
    obtain ⟨w, A1, C, A2, h1, h2, h3, h4⟩ := ROs.cut (j := j) t (by simpa using e)
    refine ⟨w, A ++ A1, C, A2, by simpa using h1, by rw [h2, List.append_assoc], h3, fun F1 H1 b o x' B' e hb1 hb2 r' => ?_⟩
    rw [List.append_assoc]
    exact .cons ((r.ext e).out fun z => hb1 (List.mem_append_left _ z)) (h4 F1 H1 b o x' B' e (fun z => hb1 (List.mem_append_right _ z)) hb2 r')
  | _, _, _, _, .nil, e => by simp at e
theorem RO.cut {v : V} {sv x : SV} {A : List Addr} {st : Stp} (r : RO K cm F H v sv A) (h : getS sv st = some x) : ∃ a w A1 B A2, v = .ref a ∧ HoldS cm H a w st ∧ A = (a :: A1) ++ (B ++ A2) ∧ RO K cm F H w x B ∧
    ∀ (F1 H1 : Hp) (b : Addr) (o : HO) (x' : SV) (B' : List Addr), Ext F H F1 H1 → b ∉ a :: A1 → b ∉ A2 → RO K cm F1 (upd H1 b o) w x' B' → ∃ sv', putS sv st x' = some sv' ∧ RO K cm F1 (upd H1 b o) v sv' ((a :: A1) ++ (B' ++ A2)) := by
  unfold getS at h
  split at h
  · rename_i ys kk
    obtain ⟨a, vs, B, rfl, rfl, n, hH, rs⟩ := r.tp_inv
    obtain ⟨w, A1, C, A2, h1, rfl, h3, h4⟩ := rs.cut h
    refine ⟨a, w, A1, C, A2, rfl, .inl ⟨vs, hH, h1⟩, rfl, h3, fun F1 H1 b o x' B' e hb1 hb2 r' => ⟨_, rfl, .tp (ext_none e hH n) ?_ (h4 F1 H1 b o x' B' e (fun z => hb1 (List.mem_cons_of_mem _ z)) hb2 r')⟩⟩
    rw [upd_ne (fun z => hb1 (by rw [z]; exact List.mem_cons_self))]
    exact e.h _ _ hH
  · rename_i ys kk
    obtain ⟨a, vs, B, rfl, rfl, n, hH, rs⟩ := r.ol_inv
    obtain ⟨w, A1, C, A2, h1, rfl, h3, h4⟩ := rs.cut h
    refine ⟨a, w, A1, C, A2, rfl, .inr ⟨vs, hH, h1⟩, rfl, h3, fun F1 H1 b o x' B' e hb1 hb2 r' => ⟨_, rfl, .ol (ext_none e hH n) ?_ (h4 F1 H1 b o x' B' e (fun z => hb1 (List.mem_cons_of_mem _ z)) hb2 r')⟩⟩
    rw [upd_ne (fun z => hb1 (by rw [z]; exact List.mem_cons_self))]
    exact e.h _ _ hH
  · rename_i a c fs xs c' f
    split at h
    · rename_i ec
      subst ec
      obtain ⟨j, e1, e2⟩ := bind_some h
      obtain ⟨dx, fvs, B, rfl, rfl, n, hH, hk, rs⟩ := r.oo_inv
      obtain ⟨w, A1, C, A2, h1, rfl, h3, h4⟩ := rs.cut e2
      subst hk
      refine ⟨a, w, A1, C, A2, rfl, ⟨dx, fvs, hH, idx_lookup e1 h1⟩, rfl, h3, fun F1 H1 b o x' B' e hb1 hb2 r' => ?_⟩
      refine ⟨.oo a c (fvs.map (·.1)) (xs.set j x'), ?_, .oo (dx := dx) (ext_none e hH n) ?_ rfl (h4 F1 H1 b o x' B' e (fun z => hb1 (List.mem_cons_of_mem _ z)) hb2 r')⟩
      · show (if c = c then (idxF f (fvs.map (·.1))).bind fun j => some (SV.oo a c (fvs.map (·.1)) (xs.set j x')) else none) = _
        rw [if_pos rfl, e1]
        rfl
      · rw [upd_ne (fun z => hb1 (by rw [z]; exact List.mem_cons_self))]
        exact e.h _ _ hH
    · cases h
  · cases h
structure Cut (K : PySem.W.Frag) (cm : CM) (F H : Hp) (sv : SV) (v0 : V) (A : List Addr) (p : List Stp) (v : V) (x : SV) (B : List Addr) : Prop where
  ro : RO K cm F H v x B
  ex : ∃ A1 A2, A = A1 ++ (B ++ A2) ∧ ∀ (F1 H1 : Hp) (b : Addr) (o : HO) (x' : SV) (B' : List Addr), Ext F H F1 H1 → b ∉ A1 → b ∉ A2 → RO K cm F1 (upd H1 b o) v x' B' → ∃ sv', putP sv p x' = some sv' ∧ RO K cm F1 (upd H1 b o) v0 sv' (A1 ++ (B' ++ A2))
def tPc (K : PySem.W.Frag) (cm : CM) (i : Nat) (p : List Stp) : TE := fun σ H Q => ∃ F ρ As sv v0 x, Rel K cm F H σ ρ As ∧ ρ[i]? = some (some sv) ∧ σ[i]? = some (some v0) ∧ getP sv p = some x ∧ ∀ v B, Cut K cm F H sv v0 (As i) p v x B → Q v H
theorem cut_snoc {sv x y : SV} {v0 v : V} {A B : List Addr} {p : List Stp} {st : Stp} (hp : getP sv p = some x) (l : Cut K cm F H sv v0 A p v x B) (h : getS x st = some y) : ∃ a w C, v = .ref a ∧ HoldS cm H a w st ∧ Cut K cm F H sv v0 A (p ++ [st]) w y C := by
  obtain ⟨a, w, Y1, C, Y2, rfl, h1, rfl, h3, h4⟩ := l.ro.cut h
  obtain ⟨X1, X2, rfl, h5⟩ := l.ex
  refine ⟨a, w, C, rfl, h1, h3, X1 ++ (a :: Y1), Y2 ++ X2, by simp [List.append_assoc], fun F1 H1 b o x' B' e hb1 hb2 r' => ?_⟩
  obtain ⟨z, q1, q2⟩ := h4 F1 H1 b o x' B' e (fun z => hb1 (List.mem_append_right _ z)) (fun z => hb2 (List.mem_append_left _ z)) r'
  obtain ⟨sv', q3, q4⟩ := h5 F1 H1 b o z _ e (fun z => hb1 (List.mem_append_left _ z)) (fun z => hb2 (List.mem_append_right _ z)) q2
  refine ⟨sv', ?_, by have e1 : X1 ++ ((a :: Y1) ++ (B' ++ Y2) ++ X2) = (X1 ++ (a :: Y1)) ++ (B' ++ (Y2 ++ X2)) := by simp [List.append_assoc]
                      rw [← e1]; exact q4⟩
  rw [putP_snoc p sv st x' x z hp q1, h]
  exact q3
/-- a dict's values, one set anew -/
theorem put_ROs {w : V} {sn : SV} {k : Key} {A' : List Addr} (r : RO K cm F H w sn A') : ∀ {kvs : List (Key × V)} {xs : List SV} {A : List Addr}, ROs K cm F H (kvs.map (·.2)) xs A → (kvs.map (·.1)).Nodup → k ∈ kvs.map (·.1) → ∃ A1 Bo A2, A = A1 ++ (Bo ++ A2) ∧ ROs K cm F H ((kvs.map fun kv => if kv.1 = k then (kv.1, w) else kv).map (·.2)) (putV (kvs.map (·.1)) xs k sn) (A1 ++ (A' ++ A2))
  | [], _, _, _, _, h => by simp at h
  | (k', v') :: kvs, _, _, .cons (A := A) (B := B) (x := x) (xs := xs) q t, nd, h => by
    rw [List.map_cons, List.nodup_cons] at nd
    rw [List.map_cons, List.map_cons, List.map_cons, putV]
    dsimp only at nd ⊢
    by_cases hk : k' = k
    · rw [if_pos hk, if_pos hk]
      have e1 : ∀ (kvs : List (Key × V)) , k ∉ kvs.map (·.1) → (kvs.map fun kv => if kv.1 = k then (kv.1, w) else kv) = kvs := fun kvs hn => by
        conv => rhs; rw [← List.map_id kvs]
        apply List.map_congr_left
        intro kv hkv
        rw [if_neg fun z => hn (by rw [← z]; exact List.mem_map_of_mem hkv)]
        rfl
      have e2 : ∀ (ks : List Key) (ys : List SV), ks.length = ys.length → k ∉ ks → putV ks ys k sn = ys := by
        intro ks
        induction ks with
        | nil => intro ys hl _; cases ys with
          | nil => rfl
          | cons y ys => cases hl
        | cons j ks ih => intro ys hl hn; cases ys with
          | nil => cases hl
          | cons y ys =>
            rw [putV, if_neg (fun z => hn (by rw [z]; exact List.mem_cons_self)), ih ys (by simpa using hl) (fun z => hn (List.mem_cons_of_mem _ z))]
      have hn : k ∉ kvs.map (·.1) := by rw [← hk]; exact nd.1
      have hl : (kvs.map (·.1)).length = xs.length := by
        have := t.length
        rw [List.length_map] at this ⊢
        exact this
      rw [e1 kvs hn, e2 _ _ hl hn]
      exact ⟨[], A, B, rfl, by rw [List.nil_append]; exact ROs.cons r t⟩
    · rw [if_neg hk, if_neg hk]
      have h' : k ∈ kvs.map (·.1) := (List.mem_cons.mp h).resolve_left fun z => hk z.symm
      obtain ⟨A1, Bo, A2, h1, h2⟩ := put_ROs r t nd.2 h'
      refine ⟨A ++ A1, Bo, A2, by rw [h1, List.append_assoc], ?_⟩
      rw [List.append_assoc]
      exact .cons q h2
end
def setDP (i : Nat) (p : List Stp) (fk : Rho → Option Dat) (o : Rho → Option SV) : Rho → Res := fun ρ => match o ρ with
  | some sn => match (fk ρ).bind isK with
    | some k => match ρ[i]? with
      | some (some sv) => match getP sv p with
        | some (.od ks xs) => @ite _ (ks.length < sizeLine ∧ ks.Nodup) (Classical.propDecidable _) (match putP sv p (.od (putKD ks xs k sn).1 (putKD ks xs k sn).2) with
          | some sv' => .nx (ρ.set i (some sv'))
          | none => .bad) .bad
        | _ => .bad
      | _ => .bad
    | none => .bad
  | none => .bad
section
variable {X : Cx} {cm : CM} {W : L2.WX} {a b e : Expr} {es : List Expr} {fa fb f : Rho → Option Dat} {fs : Rho → Option (List Dat)} {pos : Pos}
theorem pc_name (i : Nat) (h : PE X e (tVar i)) : PE X e (tPc X.K cm i []) := PE.imp h fun σ H Q ⟨F, ρ, As, sv, v0, x, rel, e1, e2, e3, k⟩ => by
  cases e3
  obtain ⟨v, h1, h2⟩ := rel.at_ i sv e1
  rw [e2] at h1
  cases h1
  exact ⟨v0, e2, k v0 (As i) ⟨h2, [], [], by simp, fun F1 H1 b o x' B' _ _ _ r => ⟨x', rfl, by simpa using r⟩⟩⟩
theorem pc_fld {i : Nat} {p q : List Stp} {c g : Str} (hq : p ++ [.fld c g] = q) (hc : Cls X.K (cm c)) (hn : NoAttr X.K (cm c) g) (hp : PE X e (tPc X.K cm i p)) (hb : attributeBase e g X.env (eval e X.env) = eval e X.env := by rfl) : PE X (.Attribute e g pos) (tPc X.K cm i q) := by
  subst hq
  refine PE.imp (pe_fld hp hb) fun σ H Q ⟨F, ρ, As, sv, v0, x, rel, e1, e2, e3, kk⟩ => ?_
  rw [getP_snoc] at e3
  obtain ⟨y, e3, e4⟩ := bind_some e3
  refine ⟨F, ρ, As, sv, v0, y, rel, e1, e2, e3, fun v B l => ?_⟩
  obtain ⟨a, w, C, rfl, ⟨dx, fvs, g1, g2⟩, l'⟩ := cut_snoc e3 l e4
  exact ⟨a, _, dx, fvs, w, rfl, g1, hc, hn, g2, kk w C l'⟩
theorem p_setDP (i : Nat) (pt : List Stp) {pos' : Pos} {fk : Rho → Option Dat} {o : Rho → Option SV} (hu : X.A.units + 1 < cLine) (hp : PE X e (tPc X.K cm i pt)) (hk : PE X b (ofE X.K cm fk)) (ha : PE X a (ofO X.K cm o)) (hs : swapsWith a (some (.Subscript e b pos')) pos.line X.env = pure false := by rfl) :
    PS X (.Assign [.Subscript e b pos'] a pos) (ofS X.K cm W (setDP i pt fk o)) := PS.imp (ps_dput hu hp hk ha hs) fun D σ H ⟨F0, H0, ρ, ⟨F, As, rel, x, n⟩, q⟩ => by
  unfold setDP at q
  split at q
  case h_2 => exact q.elim
  rename_i sn e1
  split at q
  case h_2 => exact q.elim
  rename_i k ek
  obtain ⟨kd, e0, ek⟩ := bind_some ek
  split at q
  case h_2 => exact q.elim
  rename_i sv e2
  split at q
  case h_2 => exact q.elim
  rename_i ks xs e3
  split at q
  case isFalse => exact q.elim
  rename_i hz
  obtain ⟨v0, h1, r1⟩ := rel.at_ i _ e2
  refine ⟨F, ρ, As, sn, rel, e1, fun w F1 H1 A' x1 r2 ndA nA => ?_⟩
  refine ⟨F1, ρ, As, sv, v0, _, rel.ext x1, e2, h1, e3, fun v B l => ?_⟩
  refine ⟨F1, ρ, As, kd, rel.ext x1, e0, fun u F2 H2 x2 r3 => ?_⟩
  have eu := isK_V r3 ek
  subst eu
  obtain ⟨c, kvs, C, rfl, eB, nF, hH, hks, rs⟩ := l.ro.od_inv
  have hH2 := x2.h _ _ hH
  refine ⟨c, _, rfl, DPut.k hH2 (by rw [← List.length_map (f := (·.1)), hks]; exact hz.1), ?_⟩
  obtain ⟨A1, A2, eA, hput⟩ := l.ex
  have x12 := x1.trans x2
  have ndI := rel.nd i
  have lA : c ∈ As i := by rw [eA, eB]; simp
  have hF2 := ext_none x2 hH nF
  rw [eA, eB] at ndI
  have nd1 := List.nodup_append.mp ndI
  have nd2 := List.nodup_append.mp nd1.2.1
  have cA1 : c ∉ A1 := fun z => nd1.2.2 c z c (by simp) rfl
  have cA2 : c ∉ A2 := fun z => nd2.2.2 c List.mem_cons_self c z rfl
  have cC : c ∉ C := (List.nodup_cons.mp nd2.1).1
  have hc0 : H c ≠ none := fun z => by
    obtain ⟨_, o, ho⟩ := rel.own i c lA
    rw [z] at ho
    cases ho
  have cA' : c ∉ A' := fun z => hc0 (nA c z)
  have r22 := r2.ext x2
  have own : ∀ b ∈ A', F2 b = none ∧ ∃ o, H2 b = some o := fun b hb => r22.own b hb
  have notI : ∀ b ∈ A', b ∉ As i := fun b hb hi => by
    obtain ⟨_, o, ho⟩ := rel.own i b hi
    rw [nA b hb] at ho
    cases ho
  subst hks
  have rsO := (rs.ext x2).out (o := .dK (putK kvs k w)) cC
  have rnO := r22.out (o := .dK (putK kvs k w)) cA'
  have hany2 : ((kvs.map (·.1)).any fun j => decide (j = k)) = kvs.any fun kv => decide (kv.1 = k) := by rw [List.any_map]; rfl
  obtain ⟨C', hsub, hnd, ro'⟩ : ∃ C' : List Addr, (∀ b ∈ C', b ∈ C ∨ b ∈ A') ∧ C'.Nodup ∧ RO X.K cm F2 (upd H2 c (.dK (putK kvs k w))) (.ref c) (.od (putKD (kvs.map (·.1)) xs k sn).1 (putKD (kvs.map (·.1)) xs k sn).2) (c :: C') := by
    have ndC := (List.nodup_cons.mp nd2.1).2
    have disj : ∀ b ∈ C, b ∉ A' := fun b hb z => notI b z (by rw [eA, eB]; simp [hb])
    by_cases hm : ((kvs.map (·.1)).any fun j => decide (j = k)) = true
    · have e4 : putKD (kvs.map (·.1)) xs k sn = (kvs.map (·.1), putV (kvs.map (·.1)) xs k sn) := if_pos hm
      have hany : (kvs.any fun kv => decide (kv.1 = k)) = true := by rw [← hany2]; exact hm
      have e5 : putK kvs k w = kvs.map fun kv => if kv.1 = k then (kv.1, w) else kv := if_pos hany
      have hmem : k ∈ kvs.map (·.1) := by
        obtain ⟨j, hj, ej⟩ := List.any_eq_true.mp hm
        rw [← of_decide_eq_true ej]
        exact hj
      obtain ⟨C1, Bo, C2, rfl, hr⟩ := put_ROs rnO rsO hz.2 hmem
      refine ⟨C1 ++ (A' ++ C2), fun b hb => ?_, ?_, ?_⟩
      · rcases List.mem_append.mp hb with z | z
        · exact .inl (List.mem_append_left _ z)
        · rcases List.mem_append.mp z with z | z
          · exact .inr z
          · exact .inl (List.mem_append_right _ (List.mem_append_right _ z))
      · have n1 := List.nodup_append.mp ndC
        have n2 := List.nodup_append.mp n1.2.1
        rw [List.nodup_append, List.nodup_append]
        refine ⟨n1.1, ⟨ndA, n2.2.1, fun a ha b hb e => disj b (by simp [hb]) (e ▸ ha)⟩, fun a ha b hb e => ?_⟩
        rcases List.mem_append.mp hb with z | z
        · exact disj a (List.mem_append_left _ ha) (e ▸ z)
        · exact n1.2.2 a ha b (List.mem_append_right _ z) e
      · rw [e4]
        refine .od hF2 upd_same (by rw [e5]; exact put_keys k w kvs) ?_
        rw [e5] at hr ⊢
        exact hr
    · have e4 : putKD (kvs.map (·.1)) xs k sn = (kvs.map (·.1) ++ [k], xs ++ [sn]) := if_neg hm
      have hany : ¬ (kvs.any fun kv => decide (kv.1 = k)) = true := by rw [← hany2]; exact hm
      have e5 : putK kvs k w = kvs ++ [(k, w)] := if_neg hany
      refine ⟨C ++ A', fun b hb => List.mem_append.mp hb, ?_, ?_⟩
      · rw [List.nodup_append]
        exact ⟨ndC, ndA, fun a ha b hb e => disj a ha (e ▸ hb)⟩
      · rw [e4]
        refine .od hF2 upd_same (by rw [e5, List.map_append]; rfl) ?_
        rw [e5] at rsO rnO ⊢
        rw [List.map_append]
        have q3 : ROs X.K cm F2 (upd H2 c (.dK (kvs ++ [(k, w)]))) [w] [sn] (A' ++ []) := .cons rnO .nil
        rw [List.append_nil] at q3
        exact ROs.app rsO q3
  obtain ⟨sv', ep, rp⟩ := hput F2 H2 c (.dK (putK kvs k w)) _ (c :: C') x2 cA1 cA2 ro'
  rw [ep] at q
  have hL : ∀ b ∈ A1 ++ ((c :: C') ++ A2), b ∈ As i ∨ b ∈ A' := fun b hb => by
    rw [eA, eB]
    rcases List.mem_append.mp hb with z | z
    · exact .inl (List.mem_append_left _ z)
    · rcases List.mem_append.mp z with z | z
      · rcases List.mem_cons.mp z with rfl | z
        · exact .inl (by simp)
        · rcases hsub b z with z | z
          · exact .inl (by simp [z])
          · exact .inr z
      · exact .inl (by simp [z])
  have ndL : (A1 ++ ((c :: C') ++ A2)).Nodup := by
    have cC' : c ∉ C' := fun z => (hsub c z).elim cC cA'
    have dj : ∀ b ∈ C', b ∉ A1 ∧ b ∉ A2 := fun b hb => by
      rcases hsub b hb with z | z
      · exact ⟨fun y => nd1.2.2 b y b (by simp [z]) rfl, fun y => nd2.2.2 b (List.mem_cons_of_mem _ z) b y rfl⟩
      · exact ⟨fun y => notI b z (by rw [eA]; simp [y]), fun y => notI b z (by rw [eA]; simp [y])⟩
    rw [List.nodup_append, List.nodup_append, List.nodup_cons]
    refine ⟨nd1.1, ⟨⟨cC', hnd⟩, nd2.2.1, fun a ha b hb e => ?_⟩, fun a ha b hb e => ?_⟩
    · rcases List.mem_cons.mp ha with rfl | ha
      · exact cA2 (e ▸ hb)
      · exact (dj a ha).2 (e ▸ hb)
    · rcases List.mem_append.mp hb with z | z
      · rcases List.mem_cons.mp z with rfl | z
        · exact cA1 (e ▸ ha)
        · exact (dj b z).1 (e ▸ ha)
      · exact nd1.2.2 a ha b (List.mem_append_right _ z) e
  refine q _ _ ⟨F2, _, rel_swap rel x12 lA e2 h1 nA own hL ndL rp, ext_upd (x.trans x12) hF2 (n i c lA), fun j b hb => ?_⟩
  by_cases hj : j = i
  · simp only [if_pos hj] at hb
    rcases hL b hb with z | z
    · exact n i b z
    · exact x.h.free (nA b z)
  · simp only [if_neg hj] at hb
    exact n j b hb
end
end
end Pq

namespace Pq
open PySem PySem.Spec PyProof.Rows L2
noncomputable section
variable {X : Cx} {c : Str → Addr} {W : L2.WX} {e a b' : Expr} {pos apos cpos : Pos}
/-! ### for .. in a dict that is settled, with cells beside -/
theorem zfor_core {wi : TI} {D : Ends} {σ : L2.St} {H F F0 : Hp} {cm0 cm : CM} {z : Sto} {ρ : Rho} {ds : List Dat} {h : Dat → Rho → Option Rho} {is : List Nat} {b : Sto → Rho → RZ} (hcc : cm0.c = c) (g : Grow X.K cm0 F0 cm F H z) (rel : RelZ X.K cm F H σ ρ) (q : PostZ X.K c W cm0 F0 D (forGoZ h b ds z ρ))
    (hwi : ∀ Rr : It → Hp → Prop, (∀ J, ItfS X.K cm J F ds → Rr J H) → wi σ H Rr) : tFor wi (fun v σ H Q => ∃ t z, ofG X.K ⟨c, t, z⟩ h is v σ H Q) (ofZS X.K c W b) D σ H := by
  refine hwi _ fun J hJ => ?_
  refine ⟨fun i m σ2 H2 => m = ds.length - i ∧ i ≤ ds.length ∧ ∃ z2 ρ2 cm2 F2, RelZ X.K cm2 F2 H2 σ2 ρ2 ∧ Grow X.K cm F cm2 F2 H2 z2 ∧ PostZ X.K c W cm0 F0 D (forGoZ h b (ds.drop i) z2 ρ2),
    ⟨ds.length, by simp, Nat.zero_le _, z, ρ, cm, F, rel, by
      have := g.z
      subst this
      exact Grow.refl rel.fh rel.cel, q⟩, ?_⟩
  rintro i m σ2 H2 ⟨rfl, hi, z2, ρ2, cm2, F2, rel2, g2, q2⟩
  by_cases hlt : i < ds.length
  · refine .inr ⟨hJ.go i F2 H2 g2.f rel2.fh hlt, fun σ' H' => ∃ z3 ρ3 cm3 F3, RelZ X.K cm3 F3 H' σ' ρ3 ∧ Grow X.K cm F cm3 F3 H' z3 ∧ PostZ X.K c W cm0 F0 D (forGoZ h b (ds.drop (i + 1)) z3 ρ3), fun σ' H' z => ⟨ds.length - (i + 1), by omega, rfl, hlt, z⟩, fun v H' hy => ?_⟩
    obtain ⟨F3, d, x3, ed, rd⟩ := hJ.yld i F2 H2 v H' g2.f rel2.fh hlt hy
    have edd : ds[i] = d := by rw [List.getElem?_eq_getElem hlt] at ed; exact Option.some.inj ed
    rw [List.drop_eq_getElem_cons hlt, edd, forGoZ] at q2
    split at q2
    · exact q2.elim
    rename_i ρ3 e3
    have g3 : Grow X.K cm F cm2 F3 H' cm2.z := by
      have := g2.z
      subst this
      exact g2.trans (Grow.ofExt x3 rel2.cel)
    have ecc : cm2.c = c := g2.c.trans (g.c.trans hcc)
    have hcm2 : (⟨c, cm2.t, cm2.z⟩ : CM) = cm2 := by rw [← ecc]
    refine ⟨cm2.t, cm2.z, ?_⟩
    rw [hcm2]
    refine ⟨F3, ρ2, _, d, ρ3, rel2.ext x3, rd.cmono (Same.refl _) g2.c g2.t, e3, fun σ4 As4 rel4 s4 _ _ => ?_⟩
    have rel5 : RelZ X.K cm2 F3 H' σ4 ρ3 := ⟨rel4.len, rel4.fh, fun i sv e => by
      obtain ⟨v, h1, h2⟩ := rel4.at_ i sv e
      have nA : As4 i = [] := List.eq_nil_iff_forall_not_mem.mpr fun a ha => by simpa using s4 i a ha
      rw [nA] at h2
      exact ⟨v, h1, h2⟩, fun _ => .nil, fun _ _ _ a h => by simp at h, fun _ a h => by simp at h, rel4.cel, fun _ a h => by simp at h⟩
    have ez2 := g2.z
    subst ez2
    refine ⟨cm2, F3, cm2.z, ρ3, ecc, ⟨cm2, F3, Grow.refl rel5.fh rel5.cel, rel5⟩, ?_⟩
    have up : ∀ {z' ρ' σ' H''}, StaZ X.K cm2 F3 z' ρ' σ' H'' → ∃ cm5 F5, RelZ X.K cm5 F5 H'' σ' ρ' ∧ Grow X.K cm F cm5 F5 H'' z' := fun {z' ρ' σ' H''} ⟨cm5, F5, g5, r5⟩ => ⟨cm5, F5, r5, g3.trans g5⟩
    cases hr : b cm2.z ρ3 with
    | nx z' ρ' =>
      rw [hr] at q2
      exact fun σ' H'' s => by
        obtain ⟨cm5, F5, r5, g5⟩ := up s
        exact ⟨z', ρ', cm5, F5, r5, g5, q2⟩
    | cont z' ρ' =>
      rw [hr] at q2
      exact fun σ' H'' s => by
        obtain ⟨cm5, F5, r5, g5⟩ := up s
        exact ⟨z', ρ', cm5, F5, r5, g5, q2⟩
    | brk z' ρ' =>
      rw [hr] at q2
      exact fun σ' H'' s => by
        obtain ⟨cm5, F5, r5, g5⟩ := up s
        exact q2 σ' H'' ⟨cm5, F5, g.trans g5, r5⟩
    | ret z' d =>
      rw [hr] at q2
      exact fun v cm' F' H'' g5 r => q2 v cm' F' H'' (g.trans (g3.trans g5)) r
    | exc z' ρ' nm =>
      rw [hr] at q2
      exact fun σ' H'' s => by
        obtain ⟨cm5, F5, r5, g5⟩ := up s
        exact q2 σ' H'' ⟨cm5, F5, g.trans g5, r5⟩
    | bad =>
      rw [hr] at q2
      exact q2.elim
  · have ei : i = ds.length := by omega
    subst ei
    rw [List.drop_length, forGoZ] at q2
    exact .inl ⟨hJ.stop _ F2 H2 g2.f rel2.fh (Nat.le_refl _), q2 σ2 H2 ⟨cm2, F2, g.trans g2, rel2⟩⟩

def noXZ (r : RZ) : RZ := match r with
  | .exc _ _ _ => .bad
  | r => r
def forDZ (L : List Key → List Dat → List Dat) (f : Rho → Option Dat) (h : Dat → Rho → Option Rho) (b : Sto → Rho → RZ) (z : Sto) (ρ : Rho) : RZ := match f ρ with
  | some (.dct ks xs) => noXZ (forGoZ h b (L ks xs) z ρ)
  | _ => .bad
theorem z_forD {wi : TI} {tg iter : Expr} {body : List Stmt} {P : L2.St → Hp → V → Prop} {f : Rho → Option Dat} {h : Dat → Rho → Option Rho} {is : List Nat} {b : Sto → Rho → RZ} (J : Addr → Obj → List (Key × V) → It) (L : List Key → List Dat → List Dat)
    (hp : PassesOwn (model X.prog X.w) X.A X.env X.xe) (hc : X.calm = true) (hi : PI X tg iter wi) (ok : ∀ t z, PtOk X.K ⟨c, t, z⟩ P f)
    (hw : ∀ σ H p o kvs (Rr : It → Hp → Prop), P σ H (.ref p) → H p = some (.frz o (.dK kvs)) → Rr (J p o kvs) H → wi σ H Rr)
    (hJ : ∀ {cm : CM} {F : Hp} {p : Addr} {o : Obj} {kvs : List (Key × V)} {xs : List Dat}, F p = some (.frz o (.dK kvs)) → Rs X.K cm F (kvs.map (·.2)) xs → ItfS X.K cm (J p o kvs) F (L (kvs.map (·.1)) xs))
    (hg : ∀ t z, PG X tg (ofG X.K ⟨c, t, z⟩ h is)) (hb : PSs X body (ofZS X.K c W b)) (hs : ∀ x, foldedSetIterable iter X.env x = pure x := by intro _; rfl) : PS X (.For tg iter body [] pos) (ofZS X.K c W (forDZ L f h b)) := by
  have hG : PG X tg (fun v σ H Q => ∃ t z, ofG X.K ⟨c, t, z⟩ h is v σ H Q) := ⟨fun pins s σ H v u Q I r ⟨t, z, q⟩ => (hg t z).run pins s σ H v u Q I r q⟩
  have free := ps_for (pos := pos) hp hc hi hG hb hs
  refine ⟨fun pins s σ H D I ⟨cm0, F0, z, ρ, hcc, ⟨cm, F, g, rel⟩, q⟩ => ?_⟩
  have ez := g.z
  subst ez
  have ecc : cm.c = c := g.c.trans hcc
  have hcm : (⟨c, cm.t, cm.z⟩ : CM) = cm := by rw [← ecc]
  have ok' : PtOk X.K cm P f := by rw [← hcm]; exact ok cm.t cm.z
  unfold forDZ at q
  split at q
  case h_2 => exact q.elim
  rename_i ks xs hf
  obtain ⟨v, hv, r⟩ := ok'.rd rel hf
  obtain ⟨p, kvs, rfl, gp, ek, zr⟩ := r.dct_inv
  subst ek
  rcases gp with gp | ⟨o, gp⟩
  · refine (ps_lock free).run pins s σ H D I ⟨p, .dK kvs, rel.fh _ _ gp, trivial, fun od => ?_⟩
    have t := tr_lock (K := X.K) od rel.fh gp
    have gH := rel.fh _ _ gp
    have relL : RelZ X.K cm (upd F p (.frz od (.dK kvs))) (upd H p (.frz od (.dK kvs))) σ ρ := Rel.tr t rel
    have gL : Grow X.K cm (upd F p (.frz od (.dK kvs))) cm (upd F p (.frz od (.dK kvs))) (upd H p (.frz od (.dK kvs))) cm.z := Grow.refl relL.fh relL.cel
    have un : ∀ {cm5 : CM} {F5 H5 : Hp} {z5 : Sto}, Grow X.K cm (upd F p (.frz od (.dK kvs))) cm5 F5 H5 z5 → H5 p = some (.frz od (.dK kvs)) ∧ Tr X.K F5 H5 (upd F5 p (.dK kvs)) (upd H5 p (.dK kvs)) ∧ Grow X.K cm0 F0 cm5 (upd F5 p (.dK kvs)) (upd H5 p (.dK kvs)) z5 := fun {cm5 F5 H5 z5} g5 => by
      have f5 : F5 p = some (.frz od (.dK kvs)) := g5.f _ _ upd_same
      have t5 := tr_free (K := X.K) g5.fh f5
      refine ⟨g5.fh _ _ f5, t5, g.trans ⟨g5.c, g5.t, g5.z, fun b u hb => ?_, t5.fh, g5.cel.tr t5⟩⟩
      by_cases zz : b = p
      · subst zz
        rw [upd_same, ← hb, gp]
      · rw [upd_ne zz]
        exact g5.f _ _ (by rw [upd_ne zz]; exact hb)
    have sta : ∀ {z' : Sto} {ρ' : Rho} {σ' : L2.St} {H1 : Hp}, StaZ X.K cm (upd F p (.frz od (.dK kvs))) z' ρ' σ' H1 → H1 p = some (.frz od (.dK kvs)) ∧ StaZ X.K cm0 F0 z' ρ' σ' (upd H1 p (.dK kvs)) := fun {z' ρ' σ' H1} ⟨cm5, F5, g5, rel5⟩ => by
      obtain ⟨u1, u2, u3⟩ := un g5
      exact ⟨u1, cm5, _, u3, Rel.tr u2 rel5⟩
    refine zfor_core (cm0 := cm) ecc gL relL ?_ (fun Rr hR => hw σ _ p od kvs Rr (ok'.lk _ hv gH) upd_same (hR _ (hJ (by rw [upd_same]) (zr.tr t))))
    cases hr : forGoZ h b (L (kvs.map (·.1)) xs) cm.z ρ with
    | nx z' ρ' => rw [hr] at q; exact fun σ' H1 s => ⟨(sta s).1, q _ _ (sta s).2⟩
    | brk z' ρ' => rw [hr] at q; exact fun σ' H1 s => ⟨(sta s).1, q _ _ (sta s).2⟩
    | cont z' ρ' => rw [hr] at q; exact fun σ' H1 s => ⟨(sta s).1, q _ _ (sta s).2⟩
    | ret z' d =>
      rw [hr] at q
      exact fun v cm5 F5 H5 g5 r5 => by
        obtain ⟨u1, u2, u3⟩ := un g5
        exact ⟨u1, q v cm5 _ _ u3 (r5.tr u2)⟩
    | exc z' ρ' nm => rw [hr] at q; exact q.elim
    | bad => rw [hr] at q; exact q.elim
  · refine free.run pins s σ H D I ?_
    refine zfor_core hcc g rel ?_ (fun Rr hR => hw σ _ p o kvs Rr hv (rel.fh _ _ gp) (hR _ (hJ gp zr)))
    cases hr : forGoZ h b (L (kvs.map (·.1)) xs) cm.z ρ with
    | exc z' ρ' nm => rw [hr] at q; exact q.elim
    | nx z' ρ' => rw [hr] at q; exact q
    | brk z' ρ' => rw [hr] at q; exact q
    | cont z' ρ' => rw [hr] at q; exact q
    | ret z' d => rw [hr] at q; exact q
    | bad => rw [hr] at q; exact q
theorem z_forItems {elts : List Expr} {kk : Nat} {tpos : Pos} {body : List Stmt} {P : L2.St → Hp → V → Prop} {f : Rho → Option Dat} {h : Dat → Rho → Option Rho} {is : List Nat} {b : Sto → Rho → RZ} (hp : PassesOwn (model X.prog X.w) X.A X.env X.xe) (hc : X.calm = true) (hd : PE X a (tAt P)) (ok : ∀ t z, PtOk X.K ⟨c, t, z⟩ P f)
    (hg : ∀ t z, PG X (.Tuple elts kk tpos) (ofG X.K ⟨c, t, z⟩ h is)) (hb : PSs X body (ofZS X.K c W b)) (hbase : attributeBase a "items" X.env (eval a X.env) = eval a X.env := by rfl) (hline : (apos.endLine == cpos.line) = true := by rfl) (hs : ∀ x, foldedSetIterable (.Call (.Attribute a "items" apos) [] [] cpos) X.env x = pure x := by intro _; rfl) :
    PS X (.For (.Tuple elts kk tpos) (.Call (.Attribute a "items" apos) [] [] cpos) body [] pos) (ofZS X.K c W (forDZ itemsD f h b)) :=
  z_forD Iti itemsD hp hc (pi_items hd hbase hline) ok hw_items (fun h1 h2 => itf_items h1 h2) hg hb hs
theorem z_forKeys {tg : Expr} {body : List Stmt} {P : L2.St → Hp → V → Prop} {f : Rho → Option Dat} {h : Dat → Rho → Option Rho} {is : List Nat} {b : Sto → Rho → RZ} (hp : PassesOwn (model X.prog X.w) X.A X.env X.xe) (hc : X.calm = true) (hd : PE X a (tAt P)) (ok : ∀ t z, PtOk X.K ⟨c, t, z⟩ P f)
    (hg : ∀ t z, PG X tg (ofG X.K ⟨c, t, z⟩ h is)) (hb : PSs X body (ofZS X.K c W b)) (hs : ∀ x, foldedSetIterable a X.env x = pure x := by intro _; rfl) :
    PS X (.For tg a body [] pos) (ofZS X.K c W (forDZ Lkey f h b)) :=
  z_forD Itk Lkey hp hc (pi_keys hd) ok hw_keys (fun h1 h2 => itf_keys h1) hg hb hs
/-! ### a, b = e -/
def asgTZ (h : Dat → Rho → Option Rho) (f : Sto → Rho → EZ Dat) (z : Sto) (ρ : Rho) : RZ := toRZ (f z ρ) ρ fun z d => match h d ρ with
  | some ρ' => .nx z ρ'
  | none => .bad
theorem z_setT {tg : Expr} {h : Dat → Rho → Option Rho} {is : List Nat} {f : Sto → Rho → EZ Dat} (he : PE X e (ofZE X.K c W f)) (hg : ∀ t z, PG X tg (ofG X.K ⟨c, t, z⟩ h is)) (hs : swapsWithSole [tg] e pos.line X.env = pure false := by rfl) (hw : swappedStores [tg] e X.env = pure none := by rfl)
    (h1 : (assignEach [tg] X.env).map (·.2) = [assign tg X.env] := by rfl) : PS X (.Assign [tg] e pos) (ofZS X.K c W (asgTZ h f)) := by
  have hG : PG X tg (fun v σ H Q => ∃ t z, ofG X.K ⟨c, t, z⟩ h is v σ H Q) := ⟨fun pins s σ H v u Q I r ⟨t, z, q⟩ => (hg t z).run pins s σ H v u Q I r q⟩
  refine PS.imp (ps_asg he hG hs hw h1) fun D σ H ⟨cm0, F0, z, ρ, hc, ⟨cm, F, g, rel⟩, q⟩ => ?_
  have ez := g.z
  subst ez
  refine ⟨cm, F, ρ, g.c.trans hc, rel, post_e g rel q fun cm' F' H' z' d s g1 g2 r2 q2 v r => ?_⟩
  split at q2
  case h_2 => exact q2.elim
  rename_i ρ' e2
  have ecc : cm'.c = c := g2.c.trans hc
  have hcm : (⟨c, cm'.t, cm'.z⟩ : CM) = cm' := by rw [← ecc]
  refine ⟨cm'.t, cm'.z, ?_⟩
  rw [hcm]
  refine ⟨F', ρ, _, d, ρ', r2, r, e2, fun σ4 As4 rel4 s4 _ _ => ?_⟩
  have rel5 : RelZ X.K cm' F' H' σ4 ρ' := ⟨rel4.len, rel4.fh, fun i sv e => by
    obtain ⟨v, h1, h2⟩ := rel4.at_ i sv e
    have nA : As4 i = [] := List.eq_nil_iff_forall_not_mem.mpr fun a ha => by simpa using s4 i a ha
    rw [nA] at h2
    exact ⟨v, h1, h2⟩, fun _ => .nil, fun _ _ _ a h => by simp at h, fun _ a h => by simp at h, rel4.cel, fun _ a h => by simp at h⟩
  exact q2 _ _ ⟨cm', F', g2, rel5⟩
end
end Pq

namespace Pq
open PySem PySem.Spec PyProof.Rows L2
noncomputable section
variable {X : Cx} {cm : CM} {W : L2.WX} {e a b : Expr} {es : List Expr} {pos apos cpos p : Pos} {fa fb f : Rho → Option Dat} {fs : Rho → Option (List Dat)}
/-! ### names of the module: a text, a number, a written dict -/
theorem e_gstr {x z : Str} (hg : Gl X x) (h : ∃ t, X.mg x = some (.str z t)) (hd : (x == ("__debug__" : Str)) = false := by decide) : PE X (.Name x pos) (ofE X.K cm (kD (.str z))) := by
  obtain ⟨t, e1⟩ := h
  exact e_c (pe_glob (v := .str z) hg e1 ⟨t, rfl⟩ hd) fun _ => .str z
theorem e_gint {x : Str} {i : Int} (hg : Gl X x) (h : ∃ t, X.mg x = some (.int i t)) (hd : (x == ("__debug__" : Str)) = false := by decide) : PE X (.Name x pos) (ofE X.K cm (kD (.int i))) := by
  obtain ⟨t, e1⟩ := h
  exact e_c (pe_glob (v := .int i) hg e1 ⟨t, rfl⟩ hd) fun _ => .int i
def kdS (l : List (Str × Int)) (f : Rho → Option Dat) : Rho → Option Dat := fun ρ => (f ρ).bind fun d => match d with
  | .str z => (l.lookup z).map Dat.int
  | _ => none
structure KTab (K : PySem.W.Frag) (w : World) (mg : Str → Option Value) (x : Str) (l : List (Str × Int)) : Prop where
  ok : ∃ a, mg x = some (.ref a) ∧ ∀ z n, l.lookup z = some n → KDct K w a z (.int n)
theorem e_kd {x : Str} {l : List (Str × Int)} (hg : Gl X x) (h : KTab X.K X.w X.mg x l) (hb : PE X b (ofE X.K cm fb)) (hs : PlainIx b := by exact fun _ _ => rfl) (hd : (x == ("__debug__" : Str)) = false := by decide) : PE X (.Subscript (.Name x p) b pos) (ofE X.K cm (kdS l fb)) := by
  obtain ⟨ad, e1, hk⟩ := h.ok
  refine PE.imp (pe_ix ix_kdict (pe_glob (v := .ref ad) hg e1 rfl hd) hb hs) fun σ H Q ⟨F, ρ, As, d, rel, hf, k⟩ => ?_
  unfold kdS at hf
  obtain ⟨kd, e2, hf⟩ := bind_some hf
  refine ⟨F, ρ, As, kd, rel, e2, fun v F1 H1 x1 r1 => ?_⟩
  split at hf
  · rename_i z
    obtain ⟨n, e3, e4⟩ := map_some' hf
    subst e4
    cases r1
    exact ⟨ad, z, .int n, rfl, rfl, hk z n e3, k _ F1 H1 x1 (.int n)⟩
  · cases hf
/-! ### text.split(sep) -/
def splitD : Dat → Dat → Option Dat
  | .str x, .str y => @ite _ ((y.length == 0) = false ∧ x.length + 2 ≤ sizeLine) (Classical.propDecidable _) (some (.lst ((Txt.split x y).map Dat.str))) none
  | _, _ => none
theorem e_split (ha : PE X a (ofE X.K cm fa)) (hb : PE X b (ofE X.K cm fb)) (hs : starEach [b] X.env = [(false, eval b X.env)] := by rfl) (hbase : attributeBase a "split" X.env (eval a X.env) = eval a X.env := by rfl) (hline : (apos.endLine == pos.line) = true := by rfl) :
    PE X (.Call (.Attribute a "split" apos) [b] [] pos) (ofE X.K cm (bin splitD fa fb)) := PE.imp (pe_split ha hb hs hbase hline) fun σ H Q ⟨F, ρ, As, d, rel, hf, k⟩ => by
  obtain ⟨x, e1, hf⟩ := bind_some hf
  obtain ⟨y, e2, hf⟩ := bind_some hf
  refine ⟨F, ρ, As, x, rel, e1, fun v F1 H1 x1 r1 => ?_⟩
  unfold splitD at hf
  split at hf
  · rename_i s t _
    obtain ⟨c, rfl⟩ := ite_some hf
    cases r1
    refine ⟨⟨s, rfl⟩, F1, ρ, As, .str t, rel.ext x1, e2, fun u F2 H2 x2 r2 => ?_⟩
    cases r2
    exact ⟨s, t, rfl, rfl, c.1, c.2, new_lst x2.fh (rs_strs _) fun v F' H' x3 r3 => k v F' H' ((x1.trans x2).trans x3) r3⟩
  · cases hf
/-! ### int(text) -/
def intT : List Dat → Option Dat
  | [.str x] => @ite _ (x.length ≤ 640) (Classical.propDecidable _) ((PySem.intText? x).map Dat.int) none
  | _ => none
theorem cd_intT : ClD X cm (fun xs H Q => ∃ a n, xs = [.str a] ∧ PySem.intText? a = some n ∧ a.length ≤ 640 ∧ Q (.int n) H) intT := fun F H vs ds d Q e rs hg k => by
  unfold intT at hg
  split at hg
  · rename_i x
    by_cases c : x.length ≤ 640
    case neg => rw [if_neg c] at hg; cases hg
    rw [if_pos c] at hg
    obtain ⟨n, e1, e2⟩ := map_some' hg
    subst e2
    obtain ⟨v, rfl, r⟩ := rs.one
    cases r
    exact ⟨x, n, rfl, e1, c, k _ F H (Ext.refl e) (.int n)⟩
  · cases hg
theorem e_intT (hg : Gl X "int") (hm : X.mg "int" = none) (ha : PA X (e :: es) (ofA X.K cm fs)) (he : starEach (e :: es) X.env = (false, eval e X.env) :: starEach es X.env := by rfl) (hpl : (backTo pos (starEach es X.env)).any (·.1) = false := by rfl) :
    PE X (.Call (.Name "int" p) (e :: es) [] pos) (ofE X.K cm (app intT fs)) := e_callT call_int_str cd_intT hg hm (by decide +kernel) ha (by decide) (by decide) he hpl
/-! ### for sign in text -/
def chS (f : Rho → Option Dat) : Rho → Option (List Dat) := fun ρ => (f ρ).bind fun d => match d with
  | .str x => some (x.cps.toList.map fun c => Dat.str ⟨#[c]⟩)
  | _ => none
theorem i_str {tg : Expr} (ha : PE X a (ofE X.K cm f)) : PI X tg a (ofIS X.K cm (chS f)) := PI.imp (pi_str ha) fun σ H Rr ⟨F, ρ, As, ds, rel, hf, k⟩ => by
  unfold chS at hf
  obtain ⟨d, e1, hf⟩ := bind_some hf
  split at hf
  · rename_i x
    cases hf
    refine ⟨F, ρ, As, .str x, rel, e1, fun v F1 H1 x1 r1 => ?_⟩
    cases r1
    refine ⟨x, rfl, k F1 H1 _ x1 ⟨fun i F' H' _ _ hi => ?_, fun i F' H' _ _ hi => ?_, fun i F' H' v H'' s1 s2 hi hy => ?_⟩⟩
    · rw [List.length_map, Array.length_toList] at hi
      exact hi
    · rw [List.length_map, Array.length_toList] at hi
      exact hi
    · obtain ⟨rfl, c, hc, rfl⟩ := hy
      refine ⟨F', .str ⟨#[c]⟩, Ext.refl s2, ?_, .str _⟩
      rw [List.getElem?_map, Array.getElem?_toList, hc]
      rfl
  · cases hf
/-! ### name.extend(what is new) -/
def extS (i : Nat) (o : Rho → Option SV) : Rho → Res := fun ρ => match o ρ with
  | some (.ol ys) => match ρ[i]? with
    | some (some (.ol xs)) => @ite _ (xs.length + ys.length ≤ sizeLine ∧ ys.all isFro = true) (Classical.propDecidable _) (.nx (ρ.set i (some (.ol (xs ++ ys))))) .bad
    | _ => .bad
  | _ => .bad
theorem p_ext (i : Nat) {o : Rho → Option SV} (hp : PE X e (tVar i)) (ha : PE X a (ofO X.K cm o))
    (hs : swapsWith (.Call (.Attribute e "extend" apos) [a] [] cpos) none pos.line X.env = pure false := by rfl)
    (hbase : attributeBase e "extend" X.env (eval e X.env) = eval e X.env := by rfl)
    (hfew : ((backTo cpos (starEach [a] X.env)).all (fun x => !x.1) && (backToKw cpos (keywordEach [] X.env)).all (fun x => x.1.isSome) && decide ([a].length + ([] : List Keyword).length + (if ([] : List Keyword).isEmpty then 0 else 1) < 30)) = true := by rfl)
    (hline : (apos.endLine == cpos.line) = true := by rfl) (hst : starEach [a] X.env = (false, eval a X.env) :: starEach [] X.env := by rfl) (hplain : (backTo cpos (starEach [] X.env)).any (·.1) = false := by rfl) :
    PS X (.Expr (.Call (.Attribute e "extend" apos) [a] [] cpos) pos) (ofS X.K cm W (extS i o)) :=
  PS.imp (ps_expr (pe_bm PySem.F.plainAttrs_list PySem.F.slot_list_extend PySem.F.type_list_extend mt_extend hp (pa_cons ha pa_nil hst) hbase hfew hline hst hplain) hs) fun D σ H ⟨F0, H0, ρ, ⟨F, As, rel, x, n⟩, q⟩ => by
    unfold extS at q
    split at q
    case h_2 => exact q.elim
    rename_i ys e1
    split at q
    case h_2 => exact q.elim
    rename_i xs e2
    split at q
    case isFalse => exact q.elim
    rename_i hz
    obtain ⟨v0, h1, r1⟩ := rel.at_ i _ e2
    obtain ⟨l, vs, B, rfl, eA, nF, hH, rs⟩ := r1.ol_inv
    refine ⟨.ref l, h1, ⟨.inl ⟨rfl, vs, .inl (.inl hH)⟩, F, ρ, As, .ol ys, rel, e1, fun w F1 H1 A x1 r2 nd nA => ?_⟩⟩
    obtain ⟨b2, ws, C, rfl, eC, nF2, hH2, rs2⟩ := r2.ol_inv
    have hH1 := x1.h _ _ hH
    have lA : l ∈ As i := by rw [eA]; exact List.mem_cons_self
    have hF1 := ext_none x1 hH nF
    refine ⟨l, b2, vs, ws, rfl, rfl, hH1, hH2, by rw [rs.length, rs2.length]; exact hz.1, ?_⟩
    have eC0 := ros_all rs2 hz.2
    subst eC0
    have lB : l ∉ B := by
      have := rel.nd i
      rw [eA] at this
      exact (List.nodup_cons.mp this).1
    have rr : RO X.K cm F1 (upd H1 l (.lst (vs ++ ws))) (.ref l) (.ol (xs ++ ys)) (As i) := by
      rw [eA]
      have q1 := (rs.ext x1).out (o := .lst (vs ++ ws)) lB
      have q2 : ROs X.K cm F1 (upd H1 l (.lst (vs ++ ws))) ws ys [] := rs2.out (by simp)
      have q3 := ROs.app q1 q2
      rw [List.append_nil] at q3
      exact .ol hF1 upd_same q3
    exact q _ _ ⟨F1, As, (rel.ext x1).upd lA e2 h1 rr, ext_upd (x.trans x1) hF1 (n i l lA), n⟩
end
end Pq

namespace Pq
open PySem PySem.Spec PyProof.Rows L2
noncomputable section
/-! ### sorted(d.items()) -/
section
variable {X : Cx} {cm : CM} {e a : Expr} {ta : TE} {pos p apos cpos : Pos} {fa : Rho → Option Dat}
def itV (p d : Addr) : HO := .ext fun h => h.IsItemsView p d
theorem itV_ok {P : Program} {w : World} {H : Hp} {h : Heap} {p d : Addr} (e : h.get? p = some { cls := .type "dict_items", data := .fields #[.ref d] }) : ObjOk P w H h p (itV p d) :=
  ⟨⟨_, e, rfl, rfl⟩, ⟨_, e⟩, fun h1 h2 x k => by
    obtain ⟨o, ho, r⟩ := x
    exact ⟨o, k o ho, r⟩⟩
def tItemsV (ta : TE) : TE := fun σ H Q => ta σ H fun x H1 => ∃ d kvs, x = .ref d ∧ Rd H1 d (.dK kvs) ∧ ∀ p, H1 p = none → Q (.ref p) (upd H1 p (itV p d))
theorem pe_itemsV (he : PE X e ta) (hbase : attributeBase e "items" X.env (eval e X.env) = eval e X.env := by rfl) (hline : (apos.endLine == cpos.line) = true := by rfl) : PE X (.Call (.Attribute e "items" apos) [] [] cpos) (tItemsV ta) := by
  refine ⟨fun pins s σ H Q I h => ?_⟩
  refine wpAny_Call_method (T := "dict") (id := "dict.items") hbase rfl hline F.plainAttrs_dict F.slot_dict_items F.type_dict_items (thn (he.run pins s σ H _ I h) fun u s1 ⟨x, H1, I1, rx, d, kvs, ex, hd, q⟩ => ?_)
  subst ex
  obtain rfl : u = Value.ref d := rx
  obtain ⟨z, lo, vs, rel, dd⟩ := dk_rd I1.hok hd
  refine ⟨dd.typeIs, dd.mapOf.noDict, ?_⟩
  have hf : H1 s1.heap.objs.size = none := I1.hok.fresh (Nat.le_refl _)
  show wpAny _ _ (callWith cpos (.builtin "dict.items") [.ref d] [] []) _ X.xe s1
  exact method_meetsIn F.slot_dict_items F.entry_dict_items rfl (PySem.evalArgs_none ⟨rfl, dd.typeIs, F.args_dict_items_1 _, _, meets_dict_items (mixKind X.prog X.w) d lo, ⟨vs, dd⟩, ⟨.ref s1.heap.objs.size, upd H1 s1.heap.objs.size (itV s1.heap.objs.size d), I1.laid (t' := s1.toks) (fun b u e => Heap.get?_push_of_some _ e) (Nat.le_refl _) (itV_ok (Heap.get?_push_size _ rfl)), rfl, q _ hf⟩⟩)
def rSrtIt (K : PySem.W.Frag) (cm : CM) : List V → Hp → VK → Prop := fun vs H Q => ∃ (F : Hp) (v d : Addr) (kvs : List (Key × V)) (xs : List Dat), vs = [.ref v] ∧ H v = some (itV v d) ∧ Same F H ∧ Rd F d (.dK kvs) ∧ Rs K cm F (kvs.map (·.2)) xs ∧ (∀ x ∈ xs, tf x = true) ∧ srtP (itemsD (kvs.map (·.1)) xs) ∧
  ∀ (F' H' : Hp) (l : Addr), Ext F H F' H' → R K cm F' (.ref l) (.lst ((itemsD (kvs.map (·.1)) xs).mergeSort leY)) → Q (.ref l) H'
theorem kvAt2 : ∀ {kvs : List (Key × V)} {vs : List (Key × Value)} {j : Nat} {p : Key × V}, KV kvs vs → kvs[j]? = some p → ∃ q, vs[j]? = some q ∧ p.1 = q.1 ∧ RelV p.2 q.2 := fun {kvs vs j p} h hp => by
  unfold KV at h
  induction h generalizing j with
  | nil => simp at hp
  | cons h t ih =>
    cases j with
    | zero => cases hp; exact ⟨_, rfl, h⟩
    | succ j =>
      obtain ⟨q, h1, h2⟩ := ih (by simpa using hp)
      exact ⟨q, by simpa using h1, h2⟩
theorem items_at : ∀ (ks : List Key) (xs : List Dat) (j : Nat) (k : Key) (x : Dat), ks[j]? = some k → xs[j]? = some x → (itemsD ks xs)[j]? = some (.tup [kyD k, x])
  | k :: ks, x :: xs, 0, _, _, h1, h2 => by
    cases h1; cases h2
    rw [itemsD]
    rfl
  | k :: ks, x :: xs, j + 1, _, _, h1, h2 => by
    rw [itemsD, List.getElem?_cons_succ]
    exact items_at ks xs j _ _ (by simpa using h1) (by simpa using h2)
  | [], _, j, _, _, h1, _ => by simp at h1
  | _ :: _, [], j, _, _, _, h2 => by simp at h2
theorem cr_srtItems (hc : X.calm = true) (hu : X.A.units + 64 < cLine) : CallR X (.builtin "sorted") (rSrtIt X.K cm) := by
  intro pins s σ H vs us Q I r ⟨F, v, d, kvs, xs, ev, hv, e, hd, rs, htf, ⟨p1, p2, p3, p4⟩, q⟩
  subst ev
  rw [Vals.ref1 r]
  have view : s.heap.IsItemsView v d := (show ObjOk X.prog X.w H s.heap v (itV v d) from I.hok v _ hv).1
  obtain ⟨z, lo, vs', kv, dd⟩ := dk_rd I.hok (same_rd e hd)
  obtain ⟨es, ep, raw, esz, ent⟩ := Heap.DictOf.raw dd
  have hl : kvs.length = vs'.length := Paired.length kv
  have hxl : kvs.length = xs.length := by rw [← rs.length, List.length_map]
  have hil : (itemsD (kvs.map (·.1)) xs).length = kvs.length := by rw [itemsD_len (by rw [List.length_map]; exact hxl), List.length_map]
  refine Calls.call_function_entry PyProof.Rows.kind_sorted PyProof.Rows.plain_sorted PyProof.Rows.entry_sorted (PyProof.Rows.args_sorted1 _) ?_
  unfold Builtin.«sorted»
  refine wpAny_bind (m := checkCount "sorted" 1 1 _) (wpAny_pure ?_)
  refine wpAny_bind (PySem.W.dil_collect (A := X.A.in1) (I.ok.hd hc) view raw (by omega) fun h' tk as hk hal hG => ?_)
  have I1 : Inv X pins σ H { s with heap := h', toks := tk } := I.kept hk
  have len : as.length = kvs.length := by omega
  have pr : ∀ (j : Nat) (b : Addr), as[j]? = some b → ∃ (k : Key) (vv : V) (x : Dat) (ku vu : Value), (kvs.map (·.1))[j]? = some k ∧ (kvs.map (·.2))[j]? = some vv ∧ xs[j]? = some x ∧ R X.K cm F vv x ∧ RelV (kV k) ku ∧ RelV vv vu ∧ h'.get? b = some { cls := .type "tuple", data := .seq #[ku, vu] } := fun j b hj => by
    obtain ⟨hj1, hg⟩ := hG.pairs j b hj
    have hjl : j < kvs.length := by omega
    have h1 : kvs[j]? = some kvs[j] := List.getElem?_eq_getElem hjl
    obtain ⟨kv', h2, h3, h4⟩ := kvAt2 kv h1
    obtain ⟨e1, e2⟩ := ent j hj1 kv'.1 kv'.2 h2
    obtain ⟨x, hx, rx⟩ := rs.getV (i := j) (v := kvs[j].2) (by rw [List.getElem?_map, h1]; rfl)
    exact ⟨kvs[j].1, kvs[j].2, x, es[j].key, es[j].val, by rw [List.getElem?_map, h1]; rfl, by rw [List.getElem?_map, h1]; rfl, hx, rx, relV_key (by rw [h3]; exact e1), by rw [e2]; exact h4, hg⟩
  have new : ∀ b ∈ as, s.heap.objs.size ≤ b ∧ H b = none := fun b hb => by
    have : s.heap.objs.size ≤ b := Nat.le_of_lt (hG.above b hb)
    exact ⟨this, I.hok.fresh this⟩
  have nd : as.Nodup := List.Pairwise.imp (fun h => Nat.ne_of_lt h) hG.rise
  obtain ⟨H2, I2, g2, t2⟩   := DX.takeT (P := fun b ws => ∃ (j : Nat) (k : Key) (vv : V) (x : Dat), as[j]? = some b ∧ (kvs.map (·.1))[j]? = some k ∧ xs[j]? = some x ∧ R X.K cm F vv x ∧ ws = [kV k, vv]) I as H I1 nd fun b hb => by
    obtain ⟨n1, n2⟩ := new b hb
    obtain ⟨j, hj⟩ := List.mem_iff_getElem?.mp hb
    obtain ⟨k, vv, x, ku, vu, h1, h2, h3, h4, h5, h6, h7⟩ := pr j b hj
    exact ⟨n1, n2, [kV k, vv], ⟨j, k, vv, x, hj, h1, h3, h4, rfl⟩, fun H2 => ⟨by rw [sizeLine_eq]; show 2 ≤ _; omega, [ku, vu], .cons h5 (.cons h6 .nil), _, h7, rfl, 0, rfl⟩⟩
  -- what is settled now
  obtain ⟨F2, hF2⟩ : ∃ F2, F2 = plus F H2 as := ⟨_, rfl⟩
  have fn : ∀ b ∈ as, F b = none := fun b hb => e.free (new b hb).2
  have f2 : Same F F2 := by rw [hF2]; exact plus_same fn
  have f3 : Same F2 H2 := by rw [hF2]; exact plus_le fun b o q => g2 b o (e b o q)
  have key : ∀ (j : Nat) (b : Addr), as[j]? = some b → ∃ dt, (itemsD (kvs.map (·.1)) xs)[j]? = some dt ∧ R X.K cm F2 (.ref b) dt ∧ Reads h' (.ref b) (py dt) [] := fun j b hj => by
    have hb : b ∈ as := List.mem_of_getElem? hj
    obtain ⟨k, vv, x, ku, vu, h1, h2, h3, h4, h5, h6, h7⟩ := pr j b hj
    obtain ⟨ws, ⟨j', k', vv', x', j1, j2, j3, j4, rfl⟩, hw⟩ := t2 b hb
    have ejj : j' = j := (List.getElem?_inj (List.getElem?_eq_some_iff.mp j1).1 nd).mp (by rw [j1, hj])
    subst ejj
    rw [h1] at j2
    cases j2
    rw [h3] at j3
    cases j3
    refine ⟨_, items_at _ _ _ _ _ h1 h3, .tup (.inl (.inl (by rw [hF2, plus_in hb]; exact hw))) (.cons (kyD_R k) (.cons (j4.mono f2) .nil)), ?_⟩
    have kr : ∀ {u : Value}, RelV (kV k) u → Reads h' u (py (kyD k)) [] := fun {u} hu => by
      cases k with
      | inl i => obtain ⟨t, rfl⟩ := hu; exact .int i t
      | inr y => obtain ⟨t, rfl⟩ := hu; exact .str y t
    have xr : Reads h' vu (py x) [] := by
      have h0 : Reads s.heap vu (py x) [] := R.readsT I e h4 (htf x (List.mem_of_getElem? h3)) h6
      exact PyProof.Rows.Reads.keeps (fun b o q => hk b o q) h0
    rw [py, pys, pys, pys]
    exact .tuple (as := []) h7 rfl rfl (.cons (as := []) (bs := []) (kr h5) (.cons (as := []) (bs := []) xr .nil))
  obtain ⟨ds, hds⟩ : ∃ ds, ds = itemsD (kvs.map (·.1)) xs := ⟨_, rfl⟩
  rw [← hds] at hil p1 p2 p3 p4 key q
  have zl : as.length = ds.length := by omega
  refine wpAny_bind (wpAny_newList ?_ (by rw [List.length_map, len, ← hil]; exact p4))
  have hob : (h'.push { cls := .type "list", data := .seq (as.map Value.ref).toArray }).get? h'.objs.size = some (seqObj "list" (as.map Value.ref).toArray 0) := Heap.get?_push_size _ rfl
  have z2 : (as.zip ds).map (·.2) = ds := List.map_snd_zip (by omega)
  have z1 : (as.zip ds).map (·.1) = as := List.map_fst_zip (by omega)
  have hm : (as.zip ds).map (fun b : Addr × Dat => py b.2) = ds.map py := by
    have := congrArg (List.map py) z2
    rw [List.map_map] at this
    exact this
  have ez : ∀ (as : List Addr) (ds : List Dat) (P : Value → Addr × Dat → Prop), as.length = ds.length → (∀ (j : Nat) (b : Addr) (d : Dat), as[j]? = some b → ds[j]? = some d → P (.ref b) (b, d)) → PySem.W.EachIs P (as.map Value.ref) (as.zip ds) := by
    intro as
    induction as with
    | nil => intro ds P _ _; exact .nil
    | cons a as ih =>
      intro ds P hl h
      cases ds with
      | nil => cases hl
      | cons d ds => exact .cons (h 0 a d rfl rfl) (ih ds P (by simpa using hl) fun j b d' h1 h2 => h (j + 1) b d' (by simpa using h1) (by simpa using h2))
  have er1 := ez as ds (fun u (b : Addr × Dat) => u = .ref b.1 ∧ R X.K cm F2 (.ref b.1) b.2) zl fun j b dt h1 h2 => by
    obtain ⟨dt', k1, k2, _⟩ := key j b h1
    rw [h2] at k1
    cases k1
    exact ⟨rfl, k2⟩
  have er2 := ez as ds (fun u (b : Addr × Dat) => ∃ as', Reads (h'.push { cls := .type "list", data := .seq (as.map Value.ref).toArray }) u (py b.2) as' ∧ h'.objs.size ∉ as') zl fun j b dt h1 h2 => by
    obtain ⟨dt', k1, _, k3⟩ := key j b h1
    rw [h2] at k1
    cases k1
    exact ⟨[], PyProof.Rows.Reads.keeps (fun b o q => Heap.get?_push_of_some _ q) k3, by simp⟩
  show wpAny _ _ _ _ _ { s with heap := h'.push { cls := .type "list", data := .seq (as.map Value.ref).toArray }, toks := tk }
  have srt := PySem.W.list_sort_data (prog := X.prog) (w := X.w) (A := X.A.in1) (E := X.xe) (s := { s with heap := h'.push { cls := .type "list", data := .seq (as.map Value.ref).toArray }, toks := tk }) (a := h'.objs.size) (bs := as.zip ds) (enc := fun b : Addr × Dat => py b.2)
    (Q := fun _ s' => EP X pins σ Q (.ref h'.objs.size) s') hob er1 er2 (by rw [hm]; exact p2) (by rw [hm]; exact p3) (by rw [List.length_zip, zl, Nat.min_self]; exact p4) (fun b hb => by
      have := (p1 b.2 (by rw [← z2]; exact List.mem_map_of_mem hb)).2
      show X.A.units + 1 + 1 + _ < cLine
      omega) fun out ho hout => by
    have q1 : Vals (((as.zip ds).mergeSort (PySem.W.dataLe false fun b : Addr × Dat => py b.2)).map fun b => V.ref b.1) out ∧ Rs X.K cm F2 (((as.zip ds).mergeSort (PySem.W.dataLe false fun b : Addr × Dat => py b.2)).map fun b => V.ref b.1) (((as.zip ds).mergeSort (PySem.W.dataLe false fun b : Addr × Dat => py b.2)).map (·.2)) := by
      clear ho
      generalize (as.zip ds).mergeSort (PySem.W.dataLe false fun b : Addr × Dat => py b.2) = bs at hout
      induction hout with
      | nil => exact ⟨.nil, .nil⟩
      | cons h t ih =>
        obtain ⟨rfl, hr⟩ := h
        exact ⟨.cons rfl ih.1, .cons hr ih.2⟩
    have e2 : ((as.zip ds).mergeSort (PySem.W.dataLe false fun b : Addr × Dat => py b.2)).map (·.2) = ds.mergeSort leY := by
      rw [List.map_mergeSort (r := PySem.W.dataLe false fun b : Addr × Dat => py b.2) (s := leY) (f := fun b : Addr × Dat => b.2), z2]
      intro a _ b _
      rfl
    rw [e2] at q1
    generalize ((as.zip ds).mergeSort (PySem.W.dataLe false fun b : Addr × Dat => py b.2)).map (fun b => V.ref b.1) = ws at q1
    obtain ⟨q1, q2⟩ := q1
    obtain ⟨e', he'⟩ := PyProof.Rows.sortedHeap_at (vs := as.map Value.ref) (out := List.toArray out) hob
    have hn2 : H2 h'.objs.size = none := I2.hok.fresh (Nat.le_refl _)
    have hlen : ws.length ≤ sizeLine := by rw [q2.length, List.length_mergeSort]; exact p4
    refine ⟨.ref h'.objs.size, upd H2 h'.objs.size (.lst ws), I2.laid (t' := tk) (fun b u e => ?_) (Nat.le_refl _) (show ObjOk X.prog X.w _ _ _ (.lst ws) from ⟨hlen, out, e', q1, he'⟩), rfl, ?_⟩
    · have hb : b < h'.objs.size := Heap.lt_size e
      rw [PyProof.Rows.sortedHeap_old (Nat.ne_of_lt hb) (by rw [size_push']; exact Nat.lt_succ_of_lt hb)]
      exact Heap.get?_push_of_some _ e
    · have x1 : Ext F H F2 H2 := ⟨f2, g2, f3, fun b o h n => by
        by_cases hb : b ∈ as
        · exact (new b hb).2
        · rw [hF2, plus_out hb, n] at h
          cases h⟩
      exact q (upd F2 h'.objs.size (.lst ws)) _ _ (x1.trans (Ext.laid f3 hn2)) (.lst (.inl upd_same) (q2.mono (same_new (f3.free hn2))))
  exact wpAny_bind (wpAny_holding (wpAny_mono srt (fun _ s' x => wpAny_pure ⟨_, rfl, x⟩) fun _ _ e => e))
def sortItD (d : Dat) : Option Dat := match d with
  | .dct ks xs => @ite _ ((∀ x ∈ xs, tf x = true) ∧ srtP (itemsD ks xs)) (Classical.propDecidable _) (some (.lst ((itemsD ks xs).mergeSort leY))) none
  | _ => none
def sortItE (fa : Rho → Option Dat) : Rho → Option Dat := fun ρ => (fa ρ).bind sortItD
theorem e_sortItems (hc : X.calm = true) (hu : X.A.units + 64 < cLine) (hg : Gl X "sorted") (hm : X.mg "sorted" = none) (ha : PE X a (ofE X.K cm fa)) (hbase : attributeBase a "items" X.env (eval a X.env) = eval a X.env := by rfl) (hline : (apos.endLine == cpos.line) = true := by rfl)
    (he : starEach [.Call (.Attribute a "items" apos) [] [] cpos] X.env = (false, eval (.Call (.Attribute a "items" apos) [] [] cpos) X.env) :: starEach [] X.env := by rfl) (hpl : (backTo pos (starEach [] X.env)).any (·.1) = false := by rfl) : PE X (.Call (.Name "sorted" p) [.Call (.Attribute a "items" apos) [] [] cpos] [] pos) (ofE X.K cm (sortItE fa)) :=
  PE.imp (pe_callB (cr_srtItems (cm := cm) hc hu) hg hm rfl (pa_cons (pe_itemsV ha hbase hline) pa_nil he) (by decide) (by decide) he hpl) fun σ H Q ⟨F, ρ, As, d, rel, hf, k⟩ => by
    obtain ⟨dd, e1, h3⟩ := bind_some hf
    refine ⟨F, ρ, As, dd, rel, e1, fun v F1 H1 x1 r1 => ?_⟩
    unfold sortItD at h3
    split at h3
    · rename_i ks xs
      obtain ⟨c, rfl⟩ := ite_some h3
      obtain ⟨q, kvs, rfl, g, ek, z⟩ := r1.dct_inv
      subst ek
      refine ⟨q, kvs, rfl, same_rd x1.fh g, fun pv hp => ?_⟩
      have x2 : Ext F1 H1 F1 (upd H1 pv (itV pv q)) := Ext.open x1.fh hp
      exact ⟨F1, pv, q, kvs, xs, rfl, upd_same, x2.fh, g, z, c.1, c.2, fun F' H' l x3 r3 => k _ F' H' ((x1.trans x2).trans x3) r3⟩
    · cases h3
end
end
end Pq

namespace Pq
open PySem PySem.Spec PyProof.Rows L2
noncomputable section
/-! ### bodies that tell nothing -/
def NR (b : Sto → Rho → RZ) : Prop := ∀ z ρ z' d, b z ρ ≠ .ret z' d
theorem nr_seq {a b : Sto → Rho → RZ} (h1 : NR a) (h2 : NR b) : NR (seqZ a b) := fun z ρ z' d h => by
  unfold seqZ at h
  cases q : a z ρ with
  | nx z1 ρ1 => rw [q] at h; exact h2 _ _ _ _ h
  | ret z1 d1 => exact h1 _ _ _ _ q
  | brk z1 ρ1 => rw [q] at h; cases h
  | cont z1 ρ1 => rw [q] at h; cases h
  | exc z1 ρ1 n => rw [q] at h; cases h
  | bad => rw [q] at h; cases h
theorem nr_fput {cs : List Str} {f : Str} {fv fo : Sto → Rho → EZ Dat} : NR (fputZ cs f fv fo) := fun z ρ z' d h => by
  unfold fputZ toRZ at h
  split at h <;> cases h
theorem hnZ {n m : Nat} {b : Sto → Rho → RZ} (h : NR b) : ∀ z ds z' d, fnZ n m b z ds = some (.ok z' d) → d = .non := fun z ds z' d e => by
  unfold fnZ at e
  split at e
  · cases q : b z (startR n ds) with
    | ret z1 d1 => exact absurd q (h _ _ _ _)
    | nx z1 ρ1 => rw [q] at e; cases e; rfl
    | exc z1 ρ1 n => rw [q] at e; cases e
    | _ => rw [q] at e; cases e
  · cases e
/-! ### what is walked: a dict within a tuple -/
section
variable {X : Cx} {cm : CM} {e a : Expr} {pos : Pos}
def Pix (K : PySem.W.Frag) (i k : Nat) : L2.St → Hp → V → Prop := fun σ H v => ∃ a vs, σ[i]? = some (some (.ref a)) ∧ SqT K H a vs ∧ vs[k]? = some v
theorem pt_ix {i k jk : Nat} {pc : Pos} (h : PE X a (tVar i)) (hix : PlainIx (.Constant (.int (k : Int)) jk pc) := by exact fun _ _ => rfl) : PE X (.Subscript a (.Constant (.int (k : Int)) jk pc) pos) (tAt (Pix X.K i k)) :=
  PE.imp (pe_ix ix_seq h pe_int hix) fun σ H Q ⟨v, ⟨p, vs, h1, h2, h3⟩, q⟩ => ⟨.ref p, h1, .inr (.inl ⟨p, vs, k, v, rfl, rfl, h2, atI_nat h3, q⟩)⟩
def ixT (i k : Nat) : Rho → Option Dat := fun ρ => match rd i ρ with
  | some (.tup xs) => xs[k]?
  | _ => none
theorem ok_ix (K : PySem.W.Frag) (i k : Nat) : PtOk K cm (Pix K i k) (ixT i k) where
  rd := fun rel h => by
    unfold ixT at h
    split at h
    · rename_i xs e1
      obtain ⟨v, h1, r1⟩ := rel.rd e1
      obtain ⟨p, vs, rfl, g, rs⟩ := r1.tup_inv
      obtain ⟨w, h2, r2⟩ := rs.get h
      exact ⟨w, ⟨p, vs, h1, same_sqT rel.fh g, h2⟩, r2⟩
    · cases h
  lk := fun w ⟨a, vs, h1, h2, h3⟩ h => by
    refine ⟨a, vs, h1, ?_, h3⟩
    rcases h2 with (h2 | ⟨o, h2⟩) | h2
    · exact .inl (.inl (by rw [upd_ne (fun z => by rw [z, h] at h2; cases h2)]; exact h2))
    · exact .inl (.inr ⟨o, by rw [upd_ne (fun z => by rw [z, h] at h2; cases h2)]; exact h2⟩)
    · exact .inr h2
end
/-! ### a written dict of the module, key by key -/
theorem kt_nil {K : PySem.W.Frag} {w : World} {a : Addr} : ∀ z n, ([] : List (Str × Int)).lookup z = some n → KDct K w a z (.int n) := fun z n h => by cases h
theorem kt_cons {K : PySem.W.Frag} {w : World} {a : Addr} {es : Array DictEntry} {n0 : Nat} {x : Str} {i : Int} {t : Tok} {l : List (Str × Int)} (hl : K.lookup a = some ⟨.type "dict", none, .dict es n0, #[]⟩) (hy : PySem.W.KeysLit w.params es.toList) (he : PySem.W.nsIn K a x = some (some (.int i t)))
    (h : ∀ z n, l.lookup z = some n → KDct K w a z (.int n)) : ∀ z n, ((x, i) :: l).lookup z = some n → KDct K w a z (.int n) := fun z n e => by
  rw [List.lookup_cons] at e
  split at e
  · rename_i q
    have : z = x := eq_of_beq q
    subst this
    cases e
    exact ⟨es, n0, _, hl, hy, he, ⟨t, rfl⟩⟩
  · exact h z n e
end
end Pq

namespace Pq
open PySem PySem.Spec PyProof.Rows L2
noncomputable section
@[simp high] theorem ob_some {α β : Type} (x : α) (f : α → Option β) : Option.bind (some x) f = f x := id rfl

@[simp] theorem size_is : sizeLine = 16777216 := by decide +kernel

/-! ### how the readings are worked out -/
def txs (xs : List Str) : List Dat := xs.map Dat.str
@[simp] theorem cast_eq_nat (a b : Nat) : ((a : Int) = (b : Int)) = (a = b) := propext Int.ofNat_inj
@[simp] theorem txs_len (xs : List Str) : (txs xs).length = xs.length := List.length_map _
@[simp] theorem txs_app (xs ys : List Str) : txs xs ++ txs ys = txs (xs ++ ys) := (List.map_append).symm
@[simp] theorem txs_rev (xs : List Str) : (txs xs).reverse = txs xs.reverse := List.map_reverse.symm
@[simp] theorem txs_nil : txs [] = [] := id rfl
theorem txs_cons (x : Str) (xs : List Str) : txs (x :: xs) = .str x :: txs xs := rfl
@[simp] theorem txs_get (xs : List Str) (n : Nat) : (txs xs)[n]? = (xs[n]?).map Dat.str := List.getElem?_map
@[simp] theorem m_rd0 (d : Dat) (ρ : Rho) : rd 0 (some (.fro d) :: ρ) = some d := id rfl
@[simp] theorem m_rdS (n : Nat) (x : Option SV) (ρ : Rho) : rd (n + 1) (x :: ρ) = rd n ρ := id rfl
@[simp] theorem m_set0 (x y : Option SV) (ρ : Rho) : List.set (x :: ρ) 0 y = y :: ρ := id rfl
@[simp] theorem m_setS (n : Nat) (x y : Option SV) (ρ : Rho) : List.set (x :: ρ) (n + 1) y = x :: List.set ρ n y := id rfl
@[simp] theorem m_kD (d : Dat) (ρ : Rho) : kD d ρ = some d := id rfl
@[simp] theorem m_bin (g : Dat → Dat → Option Dat) (fa fb : Rho → Option Dat) (ρ : Rho) : bin g fa fb ρ = (fa ρ).bind fun x => (fb ρ).bind fun y => g x y := id rfl
@[simp] theorem m_un (g : Dat → Option Dat) (fa : Rho → Option Dat) (ρ : Rho) : un g fa ρ = (fa ρ).bind g := id rfl
def tb : Dat → Option Bool
  | .bl k => some k
  | _ => none
@[simp] theorem tb_bl (k : Bool) : tb (.bl k) = some k := id rfl
@[simp] theorem m_tst (f : Rho → Option Dat) (ρ : Rho) : tst f ρ = (f ρ).bind tb := id rfl
@[simp] theorem m_and2 (f g : Rho → Option Bool) (ρ : Rho) : and2 f g ρ = (f ρ).bind fun k => if k = true then g ρ else some false := id rfl
@[simp] theorem m_or2 (f g : Rho → Option Bool) (ρ : Rho) : or2 f g ρ = (f ρ).bind fun k => if k = true then some true else g ρ := id rfl
@[simp] theorem m_not1 (f : Rho → Option Bool) (ρ : Rho) : not1 f ρ = (f ρ).bind fun k => some (!k) := by
  unfold not1
  cases f ρ <;> rfl
@[simp] theorem m_andV (f g : Rho → Option Dat) (ρ : Rho) : andV f g ρ = (f ρ).bind fun d => (tb d).bind fun k => if k = true then g ρ else some (.bl false) := by
  unfold andV
  cases h : f ρ with
  | none => rfl
  | some d =>
    cases d with
    | bl k => cases k <;> rfl
    | _ => rfl
@[simp] theorem m_orV (f g : Rho → Option Dat) (ρ : Rho) : orV f g ρ = (f ρ).bind fun d => (tb d).bind fun k => if k = true then some (.bl true) else g ρ := by
  unfold orV
  cases h : f ρ with
  | none => rfl
  | some d =>
    cases d with
    | bl k => cases k <;> rfl
    | _ => rfl
@[simp] theorem m_notV (f : Rho → Option Dat) (ρ : Rho) : notV f ρ = (f ρ).bind fun d => (tb d).bind fun k => some (.bl (!k)) := by
  unfold notV
  cases h : f ρ with
  | none => rfl
  | some d =>
    cases d with
    | bl k => cases k <;> rfl
    | _ => rfl
@[simp] theorem m_noneS (f : Rho → Option Dat) (ρ : Rho) : noneS f ρ = (f ρ).bind fun d => some (.bl (isNo d)) := id rfl
@[simp] theorem m_someS (f : Rho → Option Dat) (ρ : Rho) : someS f ρ = (f ρ).bind fun d => some (.bl (!isNo d)) := id rfl
@[simp] theorem m_chn (f : Rho → Option Dat) (c : Dat → Rho → Option Dat) (ρ : Rho) : chn f c ρ = (f ρ).bind fun x => c x ρ := id rfl
@[simp] theorem m_ch1 (g : Dat → Dat → Option Dat) (f : Rho → Option Dat) (x : Dat) (ρ : Rho) : ch1 g f x ρ = (f ρ).bind fun y => g x y := id rfl
@[simp] theorem m_chC (g : Dat → Dat → Option Dat) (f : Rho → Option Dat) (c : Dat → Rho → Option Dat) (x : Dat) (ρ : Rho) : chC g f c x ρ = (f ρ).bind fun y => (g x y).bind fun d => (tb d).bind fun k => if k = true then c y ρ else some (.bl false) := by
  unfold chC
  congr 1
  funext y
  cases g x y with
  | none => rfl
  | some d =>
    cases d with
    | bl k => cases k <;> rfl
    | _ => rfl
@[simp] theorem m_consA (f : Rho → Option Dat) (g : Rho → Option (List Dat)) (ρ : Rho) : consA f g ρ = (f ρ).bind fun x => (g ρ).bind fun xs => some (x :: xs) := by
  unfold consA
  congr 1
  funext x
  cases g ρ <;> rfl
@[simp] theorem m_nilA (ρ : Rho) : nilA ρ = some [] := id rfl
@[simp] theorem m_consO (f : Rho → Option SV) (g : Rho → Option (List SV)) (ρ : Rho) : consO f g ρ = (f ρ).bind fun x => (g ρ).bind fun xs => some (x :: xs) := by
  unfold consO
  congr 1
  funext x
  cases g ρ <;> rfl
@[simp] theorem m_nilO (ρ : Rho) : nilO ρ = some [] := id rfl
@[simp] theorem m_froS (f : Rho → Option Dat) (ρ : Rho) : froS f ρ = (f ρ).bind fun d => some (.fro d) := by
  unfold froS
  cases f ρ <;> rfl
@[simp] theorem m_frzS (f : Rho → Option SV) (ρ : Rho) : frzS f ρ = (f ρ).bind fun d => some (frz d) := by
  unfold frzS
  cases f ρ <;> rfl
def lstC (ds : List Dat) : Option Dat := @ite _ (ds.length ≤ sizeLine) (Classical.propDecidable _) (some (.lst ds)) none
@[simp] theorem m_lstC {ds : List Dat} (h : ds.length ≤ 16777216) : lstC ds = some (.lst ds) := ifp h
@[simp] theorem m_lstS (f : Rho → Option (List Dat)) (ρ : Rho) : lstS f ρ = (f ρ).bind lstC := id rfl
def tupC (ds : List Dat) : Option Dat := @ite _ (ds.length ≤ sizeLine) (Classical.propDecidable _) (some (.tup ds)) none
@[simp] theorem m_tupC {ds : List Dat} (h : ds.length ≤ 16777216) : tupC ds = some (.tup ds) := ifp h
@[simp] theorem m_tupS (f : Rho → Option (List Dat)) (ρ : Rho) : tupS f ρ = (f ρ).bind tupC := id rfl
def lstOC (ds : List SV) : Option SV := @ite _ (ds.length ≤ sizeLine) (Classical.propDecidable _) (some (.ol ds)) none
@[simp] theorem m_lstOC {ds : List SV} (h : ds.length ≤ 16777216) : lstOC ds = some (.ol ds) := ifp h
@[simp] theorem m_lstO (f : Rho → Option (List SV)) (ρ : Rho) : lstO f ρ = (f ρ).bind lstOC := id rfl
def tupOC (ds : List SV) : Option SV := @ite _ (ds.length ≤ sizeLine) (Classical.propDecidable _) (some (.tp ds)) none
@[simp] theorem m_tupOC {ds : List SV} (h : ds.length ≤ 16777216) : tupOC ds = some (.tp ds) := ifp h
@[simp] theorem m_tupO (f : Rho → Option (List SV)) (ρ : Rho) : tupO f ρ = (f ρ).bind tupOC := id rfl
@[simp] theorem m_app (g : List Dat → Option Dat) (f : Rho → Option (List Dat)) (ρ : Rho) : app g f ρ = (f ρ).bind g := id rfl
@[simp] theorem m_appO (g : List Dat → Option SV) (f : Rho → Option (List Dat)) (ρ : Rho) : appO g f ρ = (f ρ).bind g := id rfl
@[simp] theorem m_noP (ρ : Rho) : noP ρ = some none := id rfl
def pi : Dat → Option (Option Int)
  | .int i => some (some i)
  | _ => none
@[simp] theorem pi_int (i : Int) : pi (.int i) = some (some i) := id rfl
@[simp] theorem m_prt (f : Rho → Option Dat) (ρ : Rho) : prt f ρ = (f ρ).bind pi := id rfl
@[simp] theorem m_slS (f : Rho → Option Dat) (l h : Rho → Option (Option Int)) (ρ : Rho) : slS f l h ρ = (f ρ).bind fun x => (l ρ).bind fun lo => (h ρ).bind fun hi => slD x lo hi := id rfl
def slOD (d : Dat) (lo hi : Option Int) : Option SV := match d with
  | .lst xs => some (.ol ((cut xs lo hi).map SV.fro))
  | _ => none
@[simp] theorem m_slO (f : Rho → Option Dat) (l h : Rho → Option (Option Int)) (ρ : Rho) : slO f l h ρ = (f ρ).bind fun x => (l ρ).bind fun lo => (h ρ).bind fun hi => slOD x lo hi := id rfl
def okv : Out → Option SV
  | .ok sv => some sv
  | .exc _ _ _ => none
@[simp] theorem okv_ok (sv : SV) : okv (.ok sv) = some sv := id rfl
@[simp] theorem m_callS (g : List Dat → Option Out) (f : Rho → Option (List Dat)) (ρ : Rho) : callS g f ρ = (f ρ).bind fun ds => (g ds).bind okv := id rfl
def sq : Dat → Option (List Dat)
  | .lst xs => some xs
  | .scr xs => some xs
  | .tup xs => some xs
  | _ => none
@[simp] theorem sq_lst (xs : List Dat) : sq (.lst xs) = some xs := id rfl
@[simp] theorem sq_scr (xs : List Dat) : sq (.scr xs) = some xs := id rfl
@[simp] theorem sq_tup (xs : List Dat) : sq (.tup xs) = some xs := id rfl
@[simp] theorem m_itS (f : Rho → Option Dat) (ρ : Rho) : itS f ρ = (f ρ).bind sq := id rfl
def r1 : List Dat → Option (List Dat)
  | [.int j] => @ite _ (-(2 ^ 62) ≤ j ∧ j < 2 ^ 62) (Classical.propDecidable _) (some (rng 0 j.toNat)) none
  | _ => none
def r2 : List Dat → Option (List Dat)
  | [.int i, .int j] => @ite _ (-(2 ^ 62) ≤ i ∧ i < 2 ^ 62 ∧ -(2 ^ 62) ≤ j ∧ j < 2 ^ 62) (Classical.propDecidable _) (some (rng i (j - i).toNat)) none
  | _ => none
@[simp] theorem m_itR1 (f : Rho → Option (List Dat)) (ρ : Rho) : itR1 f ρ = (f ρ).bind r1 := id rfl
@[simp] theorem m_itR2 (f : Rho → Option (List Dat)) (ρ : Rho) : itR2 f ρ = (f ρ).bind r2 := id rfl
@[simp] theorem r1_int {j : Int} (h : -(2 ^ 62) ≤ j ∧ j < 2 ^ 62) : r1 [.int j] = some (rng 0 j.toNat) := ifp h
theorem r1_nat {n : Nat} (h : n < 2 ^ 62) : r1 [.int (n : Int)] = some (rng 0 n) := by rw [r1_int ⟨by omega, by omega⟩]; rfl
@[simp] theorem r2_int {i j : Int} (h : -(2 ^ 62) ≤ i ∧ i < 2 ^ 62 ∧ -(2 ^ 62) ≤ j ∧ j < 2 ^ 62) : r2 [.int i, .int j] = some (rng i (j - i).toNat) := ifp h
@[simp] theorem m_lcS (it : Rho → Option (List Dat)) (vs : List Nat) (h : Dat → Rho → Option Rho) (t : Rho → Option Bool) (f : Rho → Option Dat) (ρ : Rho) : lcS it vs h t f ρ = (lcL it vs h t f ρ).bind fun ds => some (.lst ds) := by
  unfold lcS
  cases lcL it vs h t f ρ <;> rfl
@[simp] theorem m_lcO (it : Rho → Option (List Dat)) (vs : List Nat) (h : Dat → Rho → Option Rho) (t : Rho → Option Bool) (f : Rho → Option Dat) (ρ : Rho) : lcO it vs h t f ρ = (lcL it vs h t f ρ).bind fun ds => some (.ol (ds.map SV.fro)) := by
  unfold lcO
  cases lcL it vs h t f ρ <;> rfl
def lcC (ds : List Dat) (r : Option (List Dat)) : Option (List Dat) := @ite _ (ds.length ≤ sizeLine) (Classical.propDecidable _) (r) none
@[simp] theorem m_lcC {ds : List Dat} {r : Option (List Dat)} (h : ds.length ≤ 16777216) : lcC ds r = r := ifp h
@[simp] theorem m_lcL (it : Rho → Option (List Dat)) (vs : List Nat) (h : Dat → Rho → Option Rho) (t : Rho → Option Bool) (f : Rho → Option Dat) (ρ : Rho) : lcL it vs h t f ρ = (it ρ).bind fun ds => lcC ds (lcGo h t f (wipeR ρ vs) ds) := id rfl
@[simp] theorem m_hName (i : Nat) (d : Dat) (ρ : Rho) : hName i d ρ = some (ρ.set i (some (.fro d))) := id rfl
@[simp] theorem m_hNil (ρ : Rho) : hNil [] ρ = some ρ := id rfl
@[simp] theorem m_hCons (h : Dat → Rho → Option Rho) (hs : List Dat → Rho → Option Rho) (d : Dat) (ds : List Dat) (ρ : Rho) : hCons h hs (d :: ds) ρ = (h d ρ).bind fun ρ1 => hs ds ρ1 := id rfl
@[simp] theorem m_hTup (n : Nat) (hs : List Dat → Rho → Option Rho) (ds : List Dat) (ρ : Rho) : hTup n hs (.tup ds) ρ = if ds.length = n then hs ds ρ else none := id rfl
@[simp] theorem m_yes (ρ : Rho) : yes ρ = some true := id rfl
@[simp] theorem m_asV (f : Rho → Option Bool) (ρ : Rho) : asV f ρ = (f ρ).bind fun k => some (.bl k) := by
  unfold asV
  cases f ρ <;> rfl
/-! statements -/
def thn (r : Res) (c : Rho → Res) : Res := match r with
  | .nx ρ' => c ρ'
  | r => r
@[simp] theorem thn_nx (ρ : Rho) (c : Rho → Res) : thn (.nx ρ) c = c ρ := id rfl
@[simp] theorem thn_ret (v : SV) (c : Rho → Res) : thn (.ret v) c = .ret v := id rfl
@[simp] theorem thn_brk (v : Rho) (c : Rho → Res) : thn (.brk v) c = .brk v := id rfl
@[simp] theorem thn_cont (v : Rho) (c : Rho → Res) : thn (.cont v) c = .cont v := id rfl
@[simp] theorem thn_exc (n : Str) (fs : List Str) (xs : List Dat) (c : Rho → Res) : thn (.exc n fs xs) c = .exc n fs xs := id rfl
def nd {α : Type} (o : Option α) (k : α → Res) : Res := match o with
  | some x => k x
  | none => .bad
@[simp] theorem nd_some {α : Type} (x : α) (k : α → Res) : nd (some x) k = k x := id rfl
@[simp] theorem m_seqS (b c : Rho → Res) (ρ : Rho) : seqS b c ρ = thn (b ρ) c := id rfl
@[simp] theorem m_nilS (ρ : Rho) : nilS ρ = .nx ρ := id rfl
@[simp] theorem m_brkS (ρ : Rho) : brkS ρ = .brk ρ := id rfl
@[simp] theorem m_contS (ρ : Rho) : contS ρ = .cont ρ := id rfl
@[simp] theorem m_asgS (i : Nat) (f : Rho → Option Dat) (ρ : Rho) : asgS i f ρ = nd (f ρ) fun d => .nx (ρ.set i (some (.fro d))) := by
  unfold asgS
  cases f ρ <;> rfl
@[simp] theorem m_asgO (i : Nat) (f : Rho → Option SV) (ρ : Rho) : asgO i f ρ = nd (f ρ) fun d => .nx (ρ.set i (some d)) := by
  unfold asgO
  cases f ρ <;> rfl
@[simp] theorem m_asgT (h : Dat → Rho → Option Rho) (f : Rho → Option Dat) (ρ : Rho) : asgT h f ρ = nd (f ρ) fun d => nd (h d ρ) Res.nx := by
  unfold asgT
  cases f ρ with
  | none => rfl
  | some d =>
    simp only [nd]
    cases h d ρ <;> rfl
@[simp] theorem m_retS (f : Rho → Option Dat) (ρ : Rho) : retS f ρ = nd (f ρ) fun d => .ret (.fro d) := by
  unfold retS
  cases f ρ <;> rfl
@[simp] theorem m_retO (f : Rho → Option SV) (ρ : Rho) : retO f ρ = nd (f ρ) fun d => .ret d := by
  unfold retO
  cases f ρ <;> rfl
@[simp] theorem m_rtN (ρ : Rho) : rtN ρ = .ret (.fro .non) := id rfl
@[simp] theorem m_ifS (t : Rho → Option Bool) (b c : Rho → Res) (ρ : Rho) : ifS t b c ρ = nd (t ρ) fun k => if k = true then b ρ else c ρ := by
  unfold ifS
  cases t ρ with
  | none => rfl
  | some k => cases k <;> rfl
@[simp] theorem m_drpS (f : Rho → Option SV) (ρ : Rho) : drpS f ρ = nd (f ρ) fun _ => .nx ρ := by
  unfold drpS
  cases f ρ <;> rfl
@[simp] theorem m_frzTo (i : Nat) (b : Rho → Res) (ρ : Rho) : frzTo i b ρ = b (frzAt i ρ) := id rfl
@[simp] theorem m_lookT (i : Nat) (b : Rho → Option Bool) (ρ : Rho) : lookT i b ρ = b (frzAt i ρ) := id rfl
@[simp] theorem m_lookE (i : Nat) (b : Rho → Option Dat) (ρ : Rho) : lookE i b ρ = (b (frzAt i ρ)).bind fun d => if isScal d = true then some d else none := id rfl
@[simp] theorem m_frz0 (sv : SV) (ρ : Rho) : frzAt 0 (some sv :: ρ) = some (.fro (frz sv)) :: ρ := id rfl
@[simp] theorem m_frzN (ρ : Rho) : frzAt 0 (none :: ρ) = none :: ρ := id rfl
@[simp] theorem m_frzS' (n : Nat) (x : Option SV) (ρ : Rho) : frzAt (n + 1) (x :: ρ) = x :: frzAt n ρ := by
  unfold frzAt
  rw [List.getElem?_cons_succ]
  cases ρ[n]? with
  | none => rfl
  | some y => cases y <;> rfl
def push (d : Dat) (o : Option (Option SV)) (k : SV → Res) : Res := match o with
  | some (some (.ol xs)) => @ite _ (xs.length < sizeLine) (Classical.propDecidable _) (k (.ol (xs ++ [.fro d]))) .bad
  | _ => .bad
@[simp] theorem push_ol (d : Dat) (xs : List SV) (k : SV → Res) (h : xs.length < sizeLine) : push d (some (some (.ol xs))) k = k (.ol (xs ++ [.fro d])) := ifp h
@[simp] theorem m_pushS (i : Nat) (f : Rho → Option Dat) (ρ : Rho) : pushS i f ρ = nd (f ρ) fun d => push d ρ[i]? fun sv => .nx (ρ.set i (some sv)) := by
  unfold pushS
  cases f ρ with
  | none => rfl
  | some d =>
    unfold nd push
    cases ρ[i]? with
    | none => rfl
    | some o =>
      cases o with
      | none => rfl
      | some sv => cases sv <;> rfl
@[simp] theorem m_forS (it : Rho → Option (List Dat)) (h : Dat → Rho → Option Rho) (b : Rho → Res) (ρ : Rho) : forS it h b ρ = nd (it ρ) fun ds => forGo h b ds ρ := by
  unfold forS
  cases it ρ <;> rfl
def fin : Res → Option Out
  | .ret sv => some (.ok sv)
  | .nx _ => some (.ok (.fro .non))
  | _ => none
@[simp] theorem fin_ret (sv : SV) : fin (.ret sv) = some (.ok sv) := id rfl
@[simp] theorem fin_nx (ρ : Rho) : fin (.nx ρ) = some (.ok (.fro .non)) := id rfl
@[simp] theorem m_fnS (n m : Nat) (b : Rho → Res) (ds : List Dat) : fnS n m b ds = if ds.length = m then fin (b (startR n ds)) else none := id rfl
@[simp] theorem m_startR (n : Nat) (ds : List Dat) : startR n ds = ds.map (fun d => some (SV.fro d)) ++ List.replicate (n - ds.length) none := id rfl
/-! operators -/
@[simp] theorem add_int (i j : Int) : addD (.int i) (.int j) = some (.int (i + j)) := id rfl
@[simp] theorem add_str {x y : Str} (h : x.length + y.length ≤ sizeLine) : addD (.str x) (.str y) = some (.str (x ++ y)) := ifp h
@[simp] theorem add_lst {x y : List Dat} (h : x.length + y.length ≤ sizeLine) : addD (.lst x) (.lst y) = some (.lst (x ++ y)) := ifp h
@[simp] theorem plus_int (i j : Int) : plusD (.int i) (.int j) = some (.int (i + j)) := id rfl
@[simp] theorem sub_int (i j : Int) : subD (.int i) (.int j) = some (.int (i - j)) := id rfl
@[simp] theorem mul_int {i j : Int} (h : (-(2 ^ 64) < i ∧ i < 2 ^ 64) ∨ (-(2 ^ 64) < j ∧ j < 2 ^ 64)) : mulD (.int i) (.int j) = some (.int (i * j)) := ifp h
@[simp] theorem div_int {i j : Int} (h : 0 < j ∧ j < 1073741824) : divD (.int i) (.int j) = some (.int (i / j)) := ifp h
@[simp] theorem mod_int {i j : Int} (h : 0 < j) : modD (.int i) (.int j) = some (.int (i % j)) := ifp h
@[simp] theorem shr_int {i j : Int} (h : 0 ≤ j) : shrD (.int i) (.int j) = some (.int (i / 2 ^ j.toNat)) := ifp h
@[simp] theorem and_int (i j : Int) : andD (.int i) (.int j) = some (.int (Builtin.bitAnd i j)) := id rfl
@[simp] theorem xor_int (i j : Int) : xorD (.int i) (.int j) = some (.int (Builtin.bitXor i j)) := id rfl
@[simp] theorem neg_int (i : Int) : negD (.int i) = some (.int (-i)) := id rfl
@[simp] theorem lt_int (i j : Int) : ltD (.int i) (.int j) = some (.bl (decide (i < j))) := id rfl
@[simp] theorem le_int (i j : Int) : leD (.int i) (.int j) = some (.bl (decide (i ≤ j))) := id rfl
@[simp] theorem gt_int (i j : Int) : gtD (.int i) (.int j) = some (.bl (decide (j < i))) := id rfl
@[simp] theorem ge_int (i j : Int) : geD (.int i) (.int j) = some (.bl (decide (j ≤ i))) := id rfl
@[simp] theorem len_lst (xs : List Dat) : lenD [.lst xs] = some (.int xs.length) := id rfl
@[simp] theorem len_tup (xs : List Dat) : lenD [.tup xs] = some (.int xs.length) := id rfl
@[simp] theorem len_scr (xs : List Dat) : lenD [.scr xs] = some (.int xs.length) := id rfl
@[simp] theorem min_int (i j : Int) : minD [.int i, .int j] = some (.int (min i j)) := by
  show some (Dat.int (if j < i then j else i)) = _
  congr 2
  split <;> omega
@[simp high] theorem min_nat (a b : Nat) : minD [.int (a : Int), .int (b : Int)] = some (.int ((min a b : Nat) : Int)) := by
  rw [min_int]
  congr 2
  omega
@[simp high] theorem max_nat (a b : Nat) : maxD [.int (a : Int), .int (b : Int)] = some (.int ((max a b : Nat) : Int)) := by
  show some (Dat.int (if (b : Int) > (a : Int) then (b : Int) else a)) = _
  congr 2
  split <;> omega
@[simp] theorem max_int (i j : Int) : maxD [.int i, .int j] = some (.int (max i j)) := by
  show some (Dat.int (if j > i then j else i)) = _
  congr 2
  split <;> omega
@[simp] theorem list_lst (xs : List Dat) : listD [.lst xs] = some (.lst xs) := id rfl
@[simp] theorem list_scr (xs : List Dat) : listD [.scr xs] = some (.lst xs) := id rfl
@[simp] theorem list_tup (xs : List Dat) : listD [.tup xs] = some (.lst xs) := id rfl
@[simp] theorem listO_lst (xs : List Dat) : listO [.lst xs] = some (.ol (xs.map SV.fro)) := id rfl
@[simp] theorem tuple_lst (xs : List Dat) : tupleD [.lst xs] = some (.tup xs) := id rfl
@[simp] theorem str_int {i : Int} (h : i.natAbs.log2 < 1920) : strD [.int i] = some (.str (toString i)) := ifp h
@[simp] theorem rev_lst (xs : List Dat) : revD (.lst xs) = some (.lst xs.reverse) := id rfl
@[simp] theorem sl_lst (xs : List Dat) (lo hi : Option Int) : slD (.lst xs) lo hi = some (.lst (cut xs lo hi)) := id rfl
@[simp] theorem sl_scr (xs : List Dat) (lo hi : Option Int) : slD (.scr xs) lo hi = some (.lst (cut xs lo hi)) := id rfl
@[simp] theorem slO_lst (xs : List Dat) (lo hi : Option Int) : slOD (.lst xs) lo hi = some (.ol ((cut xs lo hi).map SV.fro)) := id rfl
@[simp] theorem ix_lst (xs : List Dat) (i : Int) : subD' (.lst xs) (.int i) = atI xs i := id rfl
@[simp] theorem ix_tup (xs : List Dat) (i : Int) : subD' (.tup xs) (.int i) = atI xs i := id rfl
@[simp] theorem ix_scr (xs : List Dat) (i : Int) : subD' (.scr xs) (.int i) = atI xs i := id rfl
theorem atI_nat {α : Type} (xs : List α) (n : Nat) : atI xs (n : Int) = xs[n]? := by
  unfold L2.atI L2.ixN
  rw [if_pos (Int.natCast_nonneg n)]
  by_cases h : n < xs.length
  · rw [if_pos (by exact_mod_cast h)]
    simp
  · rw [if_neg (by exact_mod_cast h)]
    simp at h
    simp [h]
@[simp] theorem at0 (x : Dat) (xs : List Dat) : atI (x :: xs) 0 = some x := by
  have := atI_nat (x :: xs) 0
  simpa using this
@[simp] theorem at1 (x y : Dat) (xs : List Dat) : atI (x :: y :: xs) 1 = some y := by
  have := atI_nat (x :: y :: xs) 1
  simpa using this
@[simp] theorem at2 (x y z : Dat) (xs : List Dat) : atI (x :: y :: z :: xs) 2 = some z := by
  have := atI_nat (x :: y :: z :: xs) 2
  simpa using this
@[simp] theorem at3 (x y z u : Dat) (xs : List Dat) : atI (x :: y :: z :: u :: xs) 3 = some u := by
  have := atI_nat (x :: y :: z :: u :: xs) 3
  simpa using this
@[simp] theorem at4 (x y z u v : Dat) (xs : List Dat) : atI (x :: y :: z :: u :: v :: xs) 4 = some v := by
  have := atI_nat (x :: y :: z :: u :: v :: xs) 4
  simpa using this
theorem log_small {n : Nat} (h : n < 1000000000000) : n.log2 < 1920 := by
  by_cases h0 : n = 0
  · subst h0; decide
  · exact (Nat.log2_lt h0).mpr (Nat.lt_of_lt_of_le h (Nat.le_trans (show 1000000000000 ≤ 2 ^ 40 by decide) (Nat.pow_le_pow_right (by decide) (by decide))))
theorem atI_get {xs : List Dat} {n : Nat} {i : Int} (h : n < xs.length) (e : i = (n : Int)) : atI xs i = some xs[n] := by
  rw [e, atI_nat, List.getElem?_eq_getElem h]
@[simp] theorem cut_none (xs : List Dat) : cut xs none none = xs := by
  unfold cut
  rw [HT.sIx_none, HT.sIx_none]
  simp
theorem cut_to (xs : List Dat) (n : Nat) : cut xs none (some (n : Int)) = xs.take n := by
  unfold cut
  rw [HT.sIx_none, HT.sIx_nat, List.drop_zero, Nat.sub_zero]
  rw [List.take_eq_take_iff]
  omega
theorem cut_from (xs : List Dat) (n : Nat) : cut xs (some (n : Int)) none = xs.drop n := by
  unfold cut
  rw [HT.sIx_none, HT.sIx_nat, List.take_of_length_le (by rw [List.length_drop]; omega)]
  by_cases h : n ≤ xs.length
  · rw [Nat.min_eq_left h]
  · rw [List.drop_of_length_le (by omega), List.drop_of_length_le (by omega)]
theorem cut_two (xs : List Dat) (m n : Nat) : cut xs (some (m : Int)) (some (n : Int)) = (xs.take n).drop m := by
  unfold cut
  rw [HT.sIx_nat, HT.sIx_nat]
  by_cases h : m ≤ xs.length
  · rw [Nat.min_eq_left h, List.drop_take, List.take_eq_take_iff, List.length_drop]
    omega
  · rw [List.drop_of_length_le (by omega), List.drop_of_length_le (by rw [List.length_take]; omega), List.take_nil]
theorem cut_len (xs : List Dat) (lo hi : Option Int) : (cut xs lo hi).length ≤ xs.length := by
  unfold cut
  rw [List.length_take, List.length_drop]
  omega
theorem cut_map {α : Type} (g : α → Dat) (xs : List α) (lo hi : Option Int) : ∃ ys : List α, cut (xs.map g) lo hi = ys.map g ∧ ys.length ≤ xs.length :=
  ⟨(xs.drop (HT.sIx (xs.map g).length 0 lo)).take (HT.sIx (xs.map g).length (xs.map g).length hi - HT.sIx (xs.map g).length 0 lo), by unfold cut; rw [List.map_take, List.map_drop], by rw [List.length_take, List.length_drop]; omega⟩

@[simp] theorem cut_to' (xs : List Str) {i : Int} (h : 0 ≤ i) : cut (txs xs) none (some i) = txs (xs.take i.toNat) := by
  have := cut_to (txs xs) i.toNat
  rw [Int.toNat_of_nonneg h] at this
  rw [this, txs, txs, List.map_take]
@[simp] theorem cut_from' (xs : List Str) {i : Int} (h : 0 ≤ i) : cut (txs xs) (some i) none = txs (xs.drop i.toNat) := by
  have := cut_from (txs xs) i.toNat
  rw [Int.toNat_of_nonneg h] at this
  rw [this, txs, txs, List.map_drop]
@[simp] theorem cut_two' (xs : List Str) {i j : Int} (h : 0 ≤ i ∧ 0 ≤ j) : cut (txs xs) (some i) (some j) = txs ((xs.take j.toNat).drop i.toNat) := by
  have := cut_two (txs xs) i.toNat j.toNat
  rw [Int.toNat_of_nonneg h.1, Int.toNat_of_nonneg h.2] at this
  rw [this, txs, txs, List.map_drop, List.map_take]
theorem cut_txs (xs : List Str) (lo hi : Option Int) : ∃ ys : List Str, cut (txs xs) lo hi = txs ys ∧ ys.length ≤ xs.length := cut_map Dat.str xs lo hi
theorem at_txs {xs : List Str} {n : Nat} (h : n < xs.length) : atI (txs xs) (n : Int) = some (.str xs[n]) := by
  rw [atI_nat, txs_get, List.getElem?_eq_getElem h]
  rfl
theorem at_txs' {xs : List Str} {i : Int} {n : Nat} (e : i = (n : Int)) (h : n < xs.length) : atI (txs xs) i = some (.str xs[n]) := by
  rw [e, at_txs h]

/-! equal data -/
instance : DecidableEq Dat := fun a b => Classical.propDecidable (a = b)
mutual
/-- no truth value, dict, object in it -/
def sim : Dat → Bool
  | .non => true | .int _ => true | .str _ => true
  | .lst xs => sims xs
  | .tup xs => sims xs
  | .bl _ => false | .dct _ _ => false | .obj _ _ _ => false | .scr _ => false | .cel _ => false
def sims : List Dat → Bool
  | [] => true
  | x :: xs => sim x && sims xs
end
mutual
theorem sim_cpt : ∀ {d d' : Dat}, sim d = true → sim d' = true → cpt d d' = true
  | .non, d', _, h => by cases d' <;> first | rfl | cases h
  | .int _, d', _, h => by cases d' <;> first | rfl | cases h
  | .str _, d', _, h => by cases d' <;> first | rfl | cases h
  | .lst xs, .lst ys, h, h' => by
    rw [sim] at h h'
    rw [cpt]
    exact sims_cpt h h'
  | .tup xs, .tup ys, h, h' => by
    rw [sim] at h h'
    rw [cpt]
    exact sims_cpt h h'
  | .lst xs, .non, h, _ => rfl
  | .lst xs, .int _, h, _ => rfl
  | .lst xs, .str _, h, _ => rfl
  | .lst xs, .tup _, h, _ => rfl
  | .tup xs, .non, h, _ => rfl
  | .tup xs, .int _, h, _ => rfl
  | .tup xs, .str _, h, _ => rfl
  | .tup xs, .lst _, h, _ => rfl
  | .lst xs, .bl _, _, h => by cases h
  | .lst xs, .dct _ _, _, h => by cases h
  | .lst xs, .obj _ _ _, _, h => by cases h
  | .lst xs, .scr _, _, h => by cases h
  | .lst xs, .cel _, _, h => by cases h
  | .tup xs, .bl _, _, h => by cases h
  | .tup xs, .dct _ _, _, h => by cases h
  | .tup xs, .obj _ _ _, _, h => by cases h
  | .tup xs, .scr _, _, h => by cases h
  | .tup xs, .cel _, _, h => by cases h
  | .bl _, _, h, _ => by cases h
  | .dct _ _, _, h, _ => by cases h
  | .obj _ _ _, _, h, _ => by cases h
  | .scr _, _, h, _ => by cases h
  | .cel _, _, h, _ => by cases h
theorem sims_cpt : ∀ {xs ys : List Dat}, sims xs = true → sims ys = true → cpts xs ys = true
  | [], _, _, _ => by rw [cpts]; simp
  | _ :: _, [], _, _ => by rw [cpts]; simp
  | x :: xs, y :: ys, h, h' => by
    rw [sims, Bool.and_eq_true] at h h'
    rw [cpts, Bool.and_eq_true]
    exact ⟨sim_cpt h.1 h'.1, sims_cpt h.2 h'.2⟩
end
mutual
theorem sim_eq : ∀ {d d' : Dat}, sim d = true → sim d' = true → (eqb d d' = true ↔ d = d')
  | .non, d', _, h => by cases d' <;> simp [eqb]
  | .int i, d', _, h => by cases d' <;> first | (cases h; done) | simp [eqb]
  | .str _, d', _, h => by cases d' <;> first | (cases h; done) | simp [eqb]
  | .lst xs, .lst ys, h, h' => by
    rw [sim] at h h'
    rw [eqb, sims_eq h h', Dat.lst.injEq]
  | .tup xs, .tup ys, h, h' => by
    rw [sim] at h h'
    rw [eqb, sims_eq h h', Dat.tup.injEq]
  | .lst xs, .non, h, _ => by simp [eqb]
  | .lst xs, .int _, h, _ => by simp [eqb]
  | .lst xs, .str _, h, _ => by simp [eqb]
  | .lst xs, .tup _, h, _ => by simp [eqb]
  | .tup xs, .non, h, _ => by simp [eqb]
  | .tup xs, .int _, h, _ => by simp [eqb]
  | .tup xs, .str _, h, _ => by simp [eqb]
  | .tup xs, .lst _, h, _ => by simp [eqb]
  | .lst xs, .bl _, _, h => by cases h
  | .lst xs, .dct _ _, _, h => by cases h
  | .lst xs, .obj _ _ _, _, h => by cases h
  | .lst xs, .scr _, _, h => by cases h
  | .lst xs, .cel _, _, h => by cases h
  | .tup xs, .bl _, _, h => by cases h
  | .tup xs, .dct _ _, _, h => by cases h
  | .tup xs, .obj _ _ _, _, h => by cases h
  | .tup xs, .scr _, _, h => by cases h
  | .tup xs, .cel _, _, h => by cases h
  | .bl _, _, h, _ => by cases h
  | .dct _ _, _, h, _ => by cases h
  | .obj _ _ _, _, h, _ => by cases h
  | .scr _, _, h, _ => by cases h
  | .cel _, _, h, _ => by cases h
theorem sims_eq : ∀ {xs ys : List Dat}, sims xs = true → sims ys = true → (eqbs xs ys = true ↔ xs = ys)
  | [], [], _, _ => by simp [eqbs]
  | [], _ :: _, _, _ => by simp [eqbs]
  | _ :: _, [], _, _ => by simp [eqbs]
  | x :: xs, y :: ys, h, h' => by
    rw [sims, Bool.and_eq_true] at h h'
    rw [eqbs, Bool.and_eq_true, sim_eq h.1 h'.1, sims_eq h.2 h'.2, List.cons.injEq]
end
theorem eq_sim {d d' : Dat} (h : sim d = true) (h' : sim d' = true) (hd : dp d ≤ 50) : eqD d d' = some (.bl (decide (d = d'))) := by
  unfold eqD
  rw [if_pos (by rw [decide_eq_true hd, sim_cpt h h']; rfl)]
  congr 2
  rw [Bool.eq_iff_iff, sim_eq h h', decide_eq_true_eq]
theorem ne_sim {d d' : Dat} (h : sim d = true) (h' : sim d' = true) (hd : dp d ≤ 50) : neD d d' = some (.bl (!decide (d = d'))) := by
  unfold neD
  rw [if_pos (by rw [decide_eq_true hd, sim_cpt h h']; rfl)]
  congr 3
  rw [Bool.eq_iff_iff, sim_eq h h', decide_eq_true_eq]
@[simp] theorem eq_self {d : Dat} (h : sim d = true) (hd : dp d ≤ 50) : eqD d d = some (.bl true) := by
  rw [eq_sim h h hd, decide_eq_true rfl]
theorem ne_self {d : Dat} (h : sim d = true) (hd : dp d ≤ 50) : neD d d = some (.bl false) := by
  rw [ne_sim h h hd, decide_eq_true rfl]
  rfl
@[simp] theorem eq_int (i j : Int) : eqD (.int i) (.int j) = some (.bl (decide (i = j))) := by
  rw [eq_sim rfl rfl (by simp [dp])]
  simp only [Dat.int.injEq]
@[simp] theorem ne_int (i j : Int) : neD (.int i) (.int j) = some (.bl (!decide (i = j))) := by
  rw [ne_sim rfl rfl (by simp [dp])]
  simp only [Dat.int.injEq]
@[simp] theorem eq_str (i j : Str) : eqD (.str i) (.str j) = some (.bl (decide (i = j))) := by
  rw [eq_sim rfl rfl (by simp [dp])]
  simp only [Dat.str.injEq]
@[simp] theorem ne_str (i j : Str) : neD (.str i) (.str j) = some (.bl (!decide (i = j))) := by
  rw [ne_sim rfl rfl (by simp [dp])]
  simp only [Dat.str.injEq]
theorem sims_txs : ∀ xs : List Str, sims (txs xs) = true
  | [] => rfl
  | x :: xs => by
    show sims (.str x :: txs xs) = true
    rw [sims, sims_txs xs]
    rfl
theorem dps_txs : ∀ xs : List Str, dps (txs xs) = 0
  | [] => rfl
  | x :: xs => by
    show dps (.str x :: txs xs) = 0
    rw [dps, dps_txs xs, dp]
    rfl
@[simp] theorem txs_inj {xs ys : List Str} : txs xs = txs ys ↔ xs = ys := by
  constructor
  · exact fun h => (List.map_inj_right (fun a b h => Dat.str.inj h)).mp h
  · exact fun h => by rw [h]
@[simp] theorem eq_txs (xs ys : List Str) : eqD (.lst (txs xs)) (.lst (txs ys)) = some (.bl (decide (xs = ys))) := by
  rw [eq_sim (by rw [sim]; exact sims_txs _) (by rw [sim]; exact sims_txs _) (by rw [dp, dps_txs]; decide)]
  simp only [Dat.lst.injEq, txs_inj]
@[simp] theorem ne_txs (xs ys : List Str) : neD (.lst (txs xs)) (.lst (txs ys)) = some (.bl (!decide (xs = ys))) := by
  rw [ne_sim (by rw [sim]; exact sims_txs _) (by rw [sim]; exact sims_txs _) (by rw [dp, dps_txs]; decide)]
  simp only [Dat.lst.injEq, txs_inj]

@[simp] theorem isi_tup (xs : List Dat) : isiD "tuple" (.tup xs) = some (.bl true) := id rfl
@[simp] theorem isi_lst (xs : List Dat) : isiD "list" (.lst xs) = some (.bl true) := id rfl
@[simp] theorem isi_int (i : Int) : isiD "int" (.int i) = some (.bl true) := id rfl
@[simp] theorem isi_intb (i : Int) : isiD "bool" (.int i) = some (.bl false) := id rfl

/-! loops -/
theorem forGo_run {h : Dat → Rho → Option Rho} {b : Rho → Res} {ds : List Dat} (I : Nat → Rho → Prop) (hs : ∀ i (hi : i < ds.length) ρ, I i ρ → ∃ ρ1 ρ', h ds[i] ρ = some ρ1 ∧ (b ρ1 = .nx ρ' ∨ b ρ1 = .cont ρ') ∧ I (i + 1) ρ') {ρ : Rho} (h0 : I 0 ρ) : ∃ ρ', forGo h b ds ρ = .nx ρ' ∧ I ds.length ρ' := by
  suffices H : ∀ (n i : Nat) (ρ : Rho), i + n = ds.length → I i ρ → ∃ ρ', forGo h b (ds.drop i) ρ = .nx ρ' ∧ I ds.length ρ' from by
    have := H ds.length 0 ρ (by omega) h0
    rwa [List.drop_zero] at this
  intro n
  induction n with
  | zero =>
    intro i ρ e hI
    have : i = ds.length := by omega
    subst this
    rw [List.drop_length]
    exact ⟨ρ, rfl, hI⟩
  | succ n ih =>
    intro i ρ e hI
    have hi : i < ds.length := by omega
    obtain ⟨ρ1, ρ', e1, e2, e3⟩ := hs i hi ρ hI
    obtain ⟨ρ2, q1, q2⟩ := ih (i + 1) ρ' (by omega) e3
    refine ⟨ρ2, ?_, q2⟩
    rw [List.drop_eq_getElem_cons hi, forGo, e1]
    rcases e2 with e2 | e2
    · simp only [e2]
      exact q1
    · simp only [e2]
      exact q1
theorem lcGo_run {α : Type} {h : Dat → Rho → Option Rho} {t : Rho → Option Bool} {f : Rho → Option Dat} {ρ : Rho} {g : α → Dat} {p : α → Bool} {F : α → Dat} : ∀ (xs : List α), (∀ x ∈ xs, ∃ ρ1, h (g x) ρ = some ρ1 ∧ t ρ1 = some (p x) ∧ (p x = true → f ρ1 = some (F x))) → lcGo h t f ρ (xs.map g) = some ((xs.filter p).map F)
  | [], _ => rfl
  | x :: xs, H => by
    obtain ⟨ρ1, e1, e2, e3⟩ := H x List.mem_cons_self
    have ih := lcGo_run xs fun y hy => H y (List.mem_cons_of_mem _ hy)
    rw [List.map_cons, lcGo, e1, Option.bind_some, e2, Option.bind_some]
    cases hp : p x with
    | false => rw [if_neg (by decide), ih, List.filter_cons_of_neg (by rw [hp]; decide)]
    | true => rw [if_pos rfl, e3 hp, ih, List.filter_cons_of_pos hp]; rfl
theorem lcGo_map {α : Type} {h : Dat → Rho → Option Rho} {f : Rho → Option Dat} {ρ : Rho} {g : α → Dat} {F : α → Dat} (xs : List α) (H : ∀ x ∈ xs, ∃ ρ1, h (g x) ρ = some ρ1 ∧ f ρ1 = some (F x)) : lcGo h yes f ρ (xs.map g) = some (xs.map F) := by
  rw [lcGo_run (p := fun _ => true) xs fun x hx => by
    obtain ⟨ρ1, e1, e2⟩ := H x hx
    exact ⟨ρ1, e1, rfl, fun _ => e2⟩, List.filter_eq_self.mpr (by simp)]
theorem lcGo_txs {h : Dat → Rho → Option Rho} {f : Rho → Option Dat} {ρ : Rho} : ∀ (ds : List Dat), (∀ d ∈ ds, ∃ ρ1 s, h d ρ = some ρ1 ∧ f ρ1 = some (.str s)) → ∃ ss : List Str, lcGo h yes f ρ ds = some (txs ss) ∧ ss.length = ds.length
  | [], _ => ⟨[], rfl, rfl⟩
  | d :: ds, H => by
    obtain ⟨ρ1, s, e1, e2⟩ := H d List.mem_cons_self
    obtain ⟨ss, q1, q2⟩ := lcGo_txs ds fun y hy => H y (List.mem_cons_of_mem _ hy)
    refine ⟨s :: ss, ?_, by rw [List.length_cons, List.length_cons, q2]⟩
    rw [lcGo, e1, Option.bind_some]
    show (some true).bind _ = _
    rw [Option.bind_some, if_pos rfl, e2, q1]
    rfl
theorem mem_rng {lo : Int} {n : Nat} {d : Dat} (h : d ∈ rng lo n) : ∃ i : Nat, i < n ∧ d = .int (lo + i) := by
  unfold rng at h
  obtain ⟨i, h1, h2⟩ := List.mem_map.mp h
  exact ⟨i, List.mem_range.mp h1, h2.symm⟩
theorem rng_is (lo : Int) (n : Nat) : rng lo n = (List.range n).map fun (i : Nat) => Dat.int (lo + (i : Int)) := rfl
theorem len_str {z : Str} (h : z.length ≤ 16777216) : lenD [.str z] = some (.int z.length) := ifp h
theorem ix_str {z : Str} (i : Int) (h : z.length ≤ 16777216) : subD' (.str z) (.int i) = (atI z.cps.toList i).map fun c => Dat.str ⟨#[c]⟩ := ifp h
theorem txsOf_txs : ∀ ys : List Str, txsOf (txs ys) = some ys
  | [] => rfl
  | y :: ys => by
    rw [txs_cons, txsOf, txsOf_txs ys]
    rfl
theorem join_txs {a : Str} {ys : List Str} (h : (ys.map (·.length)).sum + ys.length * a.length ≤ 16777216) : joinD (.str a) (.lst (txs ys)) = some (.str (Txt.join a ys)) := by
  show (txsOf (txs ys)).bind _ = _
  rw [txsOf_txs, ob_some]
  exact ifp h
@[simp] theorem eq_bl (a b : Bool) : eqD (.bl a) (.bl b) = some (.bl (a == b)) := by
  unfold eqD
  rw [if_pos (by simp [dp, cpt])]
  rw [eqb]
@[simp] theorem ne_bl (a b : Bool) : neD (.bl a) (.bl b) = some (.bl (!(a == b))) := by
  unfold neD
  rw [if_pos (by simp [dp, cpt])]
  rw [eqb]
theorem any_txs (x : Str) : ∀ xs : List Str, ((txs xs).any fun c => eqb c (.str x)) = decide (x ∈ xs)
  | [] => by simp
  | y :: xs => by
    rw [txs_cons, List.any_cons, any_txs x xs, eqb]
    by_cases h : x = y
    · subst h; simp
    · have h' : ¬ y = x := fun z => h z.symm
      simp [h, h']
theorem flat_txs : ∀ xs : List Str, (txs xs).all flat = true
  | [] => rfl
  | y :: xs => by rw [txs_cons, List.all_cons, flat_txs xs]; rfl
theorem inB_lst (d : Dat) (xs : List Dat) (h : (flat d && xs.all flat) = true) : inB d (.lst xs) = some (xs.any fun c => eqb c d) := if_pos h
@[simp] theorem in_txs (x : Str) (xs : List Str) : inD (.str x) (.lst (txs xs)) = some (.bl (decide (x ∈ xs))) := by
  unfold inD
  rw [inB_lst _ _ (by rw [flat_txs]; rfl), any_txs]
  rfl
@[simp] theorem nin_txs (x : Str) (xs : List Str) : ninD (.str x) (.lst (txs xs)) = some (.bl (!decide (x ∈ xs))) := by
  unfold ninD
  rw [inB_lst _ _ (by rw [flat_txs]; rfl), any_txs]
  rfl
theorem at_neg {xs : List Str} {k : Nat} (h : k < xs.length) : atI (txs xs) (-1 - (k : Int)) = some (.str (xs[xs.length - 1 - k]'(by omega))) := by
  unfold L2.atI L2.ixN
  rw [if_neg (by omega), if_pos (by rw [txs_len]; omega), Option.bind_some, txs_len]
  have : (-1 - (k : Int) + (xs.length : Int)).toNat = xs.length - 1 - k := by omega
  rw [this, txs_get, List.getElem?_eq_getElem (by omega)]
  rfl
theorem while_count {t : Rho → Option Bool} {b : Rho → Res} (ρ : Nat → Rho) (K : Nat) (h1 : ∀ k, k < K → t (ρ k) = some true ∧ b (ρ k) = .nx (ρ (k + 1))) (h2 : t (ρ K) = some false) : ∀ (n k : Nat), k ≤ K → K - k < n → whileS t b n (ρ k) = .nx (ρ K) := by
  intro n
  induction n with
  | zero => intro k _ h; omega
  | succ n ih =>
    intro k hk hn
    rw [whileS]
    by_cases e : k = K
    · subst e
      rw [h2]
    · obtain ⟨q1, q2⟩ := h1 k (by omega)
      rw [q1]
      simp only [q2]
      exact ih (k + 1) (by omega) (by omega)
theorem forGo_find {h : Dat → Rho → Option Rho} {b : Rho → Res} {v : SV} (I : Rho → Prop) : ∀ (ds : List Dat) (ρ : Rho), (∀ d ∈ ds, ∀ ρ, I ρ → ∃ ρ1, h d ρ = some ρ1 ∧ (b ρ1 = .ret v ∨ ∃ ρ', b ρ1 = .nx ρ' ∧ I ρ')) → (∃ d ∈ ds, ∀ ρ, I ρ → ∃ ρ1, h d ρ = some ρ1 ∧ b ρ1 = .ret v) → I ρ → forGo h b ds ρ = .ret v
  | [], _, _, ⟨_, hd, _⟩, _ => by simp at hd
  | d :: ds, ρ, hs, ⟨e, he, hit⟩, hI => by
    obtain ⟨ρ1, e1, e2⟩ := hs d List.mem_cons_self ρ hI
    rw [forGo, e1]
    rcases e2 with e2 | ⟨ρ', e2, e3⟩
    · simp only [e2]
    · simp only [e2]
      rcases List.mem_cons.mp he with z | z
      · subst z
        obtain ⟨ρ2, q1, q2⟩ := hit ρ hI
        rw [e1] at q1
        cases q1
        rw [e2] at q2
        cases q2
      · exact forGo_find I ds ρ' (fun d hd => hs d (List.mem_cons_of_mem _ hd)) ⟨e, z, hit⟩ e3
theorem lcGo_strsP {P : Str → Prop} {h : Dat → Rho → Option Rho} {f : Rho → Option Dat} {ρ : Rho} : ∀ (ds : List Dat), (∀ d ∈ ds, ∃ ρ1 s, h d ρ = some ρ1 ∧ f ρ1 = some (.str s) ∧ P s) → ∃ ss : List Str, lcGo h yes f ρ ds = some (txs ss) ∧ ss.length = ds.length ∧ ∀ s ∈ ss, P s
  | [], _ => ⟨[], rfl, rfl, fun _ h => by simp at h⟩
  | d :: ds, H => by
    obtain ⟨ρ1, s, e1, e2, e3⟩ := H d List.mem_cons_self
    obtain ⟨ss, q1, q2, q3⟩ := lcGo_strsP ds fun y hy => H y (List.mem_cons_of_mem _ hy)
    refine ⟨s :: ss, ?_, by rw [List.length_cons, List.length_cons, q2], fun t ht => ?_⟩
    · rw [lcGo, e1, Option.bind_some]
      show (some true).bind _ = _
      rw [Option.bind_some, if_pos rfl, e2, q1]
      rfl
    · rcases List.mem_cons.mp ht with z | z
      · rw [z]; exact e3
      · exact q3 t z
theorem sum_ones : ∀ {ss : List Str}, (∀ s ∈ ss, s.length = 1) → (ss.map (·.length)).sum = ss.length
  | [], _ => rfl
  | s :: ss, h => by
    rw [List.map_cons, List.sum_cons, sum_ones fun t ht => h t (List.mem_cons_of_mem _ ht), h s List.mem_cons_self, List.length_cons]
    omega
end
end Pq

namespace Pq
open PySem PySem.Spec PyProof.Rows L2
noncomputable section
/-! ### the readings of Pq13 .. Pq20 -/
theorem map_toNat_inj : ∀ {a b : List Char}, a.map Char.toNat = b.map Char.toNat → a = b
  | [], [], _ => rfl
  | [], _ :: _, h => by simp at h
  | _ :: _, [], h => by simp at h
  | x :: a, y :: b, h => by
    rw [List.map_cons, List.map_cons, List.cons.injEq] at h
    rw [map_toNat_inj h.2, Char.toNat_inj.mp h.1]
@[simp] theorem ofs_inj (a b : String) : (Str.ofString a = Str.ofString b) = (a = b) := by
  apply propext
  constructor
  · intro h
    rw [Str.ofString_eq_toList, Str.ofString_eq_toList] at h
    have h1 := congrArg (fun s : Str => s.cps.toList) h
    simp only at h1
    exact String.toList_inj.mp (map_toNat_inj h1)
  · exact fun h => by rw [h]
def fldC (c f : Str) (x : SV) : Option (Option SV) → Option SV
  | some (some (.oo a c' fs xs)) => if c' = c ∧ f ∉ fs ∧ fs.length < 1000 then some (.oo a c' (fs ++ [f]) (xs ++ [x])) else none
  | _ => none
theorem fldC_oo (c f : Str) (x : SV) (a : Addr) (fs : List Str) (xs : List SV) (h : f ∉ fs ∧ fs.length < 1000) : fldC c f x (some (some (.oo a c fs xs))) = some (.oo a c (fs ++ [f]) (xs ++ [x])) := if_pos ⟨rfl, h⟩
@[simp] theorem m_fldS (i : Nat) (c f : Str) (g : Rho → Option SV) (ρ : Rho) : fldS i c f g ρ = nd (g ρ) fun x => nd (fldC c f x ρ[i]?) fun sv => .nx (ρ.set i (some sv)) := by
  unfold fldS
  cases g ρ with
  | none => rfl
  | some x =>
    simp only [nd]
    cases ρ[i]? with
    | none => rfl
    | some o =>
      cases o with
      | none => rfl
      | some sv =>
        cases sv <;> try rfl
        simp only [fldC]
        split <;> rfl
@[simp] theorem m_fldD {cs : List Str} {f : Str} (c : Str) (fs : List Str) (xs : List Dat) (h : c ∈ cs) : fldD cs f (.obj c fs xs) = lookF fs xs f := if_pos h
@[simp] theorem m_lookF (k : Str) (ks : List Str) (x : Dat) (xs : List Dat) (j : Str) : lookF (k :: ks) (x :: xs) j = if j = k then some x else lookF ks xs j := id rfl
def methC (c m : Str) (g : List Dat → Option Out) (ds : List Dat) : Dat → Option SV
  | .obj c' fl xs => if c' = c ∧ m ∉ fl then (g (.obj c' fl xs :: ds)).bind okv else none
  | _ => none
@[simp] theorem methC_obj (c m : Str) (g : List Dat → Option Out) (ds : List Dat) (fl : List Str) (xs : List Dat) (h : m ∉ fl) : methC c m g ds (.obj c fl xs) = (g (.obj c fl xs :: ds)).bind okv := if_pos ⟨rfl, h⟩
@[simp] theorem m_methS (c m : Str) (g : List Dat → Option Out) (fo : Rho → Option Dat) (f : Rho → Option (List Dat)) (ρ : Rho) : methS c m g fo f ρ = (fo ρ).bind fun d => (f ρ).bind fun ds => methC c m g ds d := by
  unfold methS
  congr 1
  funext d
  congr 1
  funext ds
  cases d <;> rfl
def fin0 : Res → Option SV
  | .nx ρ => match ρ[0]? with
    | some (some sv) => some sv
    | _ => none
  | _ => none
@[simp] theorem m_initS (n m : Nat) (b : Rho → Res) (c : Str) (x : Addr) (ds : List Dat) : initS n m b c x ds = if ds.length = m then fin0 (b (some (.oo x c [] []) :: startR n ds)) else none := by
  unfold initS fin0
  rfl
@[simp] theorem fin0_nx (sv : SV) (ρ : Rho) : fin0 (.nx (some sv :: ρ)) = some sv := id rfl
@[simp] theorem m_pushP0 (i : Nat) (f : Rho → Option Dat) (ρ : Rho) : pushP i [] f ρ = pushS i f ρ := by
  unfold pushP pushS
  cases f ρ with
  | none => rfl
  | some d =>
    simp only [getP, putP]
    cases ρ[i]? with
    | none => rfl
    | some o =>
      cases o with
      | none => rfl
      | some sv => cases sv <;> rfl
@[simp] theorem m_badS (ρ : Rho) : badS ρ = .bad := id rfl
@[simp] theorem ltX_int (i j : Int) : ltX (.int i) (.int j) = some (.bl (decide (i < j))) := id rfl
@[simp] theorem gtX_int (i j : Int) : gtX (.int i) (.int j) = some (.bl (decide (j < i))) := id rfl
@[simp] theorem leX_int (i j : Int) : leX (.int i) (.int j) = some (.bl (decide (i ≤ j))) := id rfl
@[simp] theorem geX_int (i j : Int) : geX (.int i) (.int j) = some (.bl (decide (j ≤ i))) := id rfl
def sLt (i j : Str) : Bool := decide (i.cps.toList < j.cps.toList)
@[simp] theorem ltX_str (i j : Str) : ltX (.str i) (.str j) = some (.bl (sLt i j)) := id rfl
@[simp] theorem mulX_int (i j : Int) : mulX (.int i) (.int j) = mulD (.int i) (.int j) := id rfl
@[simp] theorem mulX_str {x : Str} {n : Int} (h : repP x n) : mulX (.str x) (.int n) = some (.str (Txt.mul x n)) := ifp h
@[simp] theorem pow_int {i j : Int} (h : 0 ≤ j ∧ j ≤ 1000000 ∧ i.natAbs < 2 ^ 64) : powD (.int i) (.int j) = some (.int (i ^ j.toNat)) := ifp h
def notDct : Dat → Bool
  | .dct _ _ => false
  | _ => true
theorem eqX_eq {d d' : Dat} (h : notDct d = true) : eqX d d' = eqD d d' := by cases d <;> first | rfl | cases h
theorem neX_eq {d d' : Dat} (h : notDct d = true) : neX d d' = neD d d' := by cases d <;> first | rfl | cases h
@[simp] theorem eqX_int (i : Int) (d : Dat) : eqX (.int i) d = eqD (.int i) d := id rfl
@[simp] theorem eqX_str (i : Str) (d : Dat) : eqX (.str i) d = eqD (.str i) d := id rfl
@[simp] theorem eqX_bl (i : Bool) (d : Dat) : eqX (.bl i) d = eqD (.bl i) d := id rfl
@[simp] theorem eqX_lst (i : List Dat) (d : Dat) : eqX (.lst i) d = eqD (.lst i) d := id rfl
@[simp] theorem eqX_tup (i : List Dat) (d : Dat) : eqX (.tup i) d = eqD (.tup i) d := id rfl
@[simp] theorem eqX_non (d : Dat) : eqX .non d = eqD .non d := id rfl
@[simp] theorem neX_int (i : Int) (d : Dat) : neX (.int i) d = neD (.int i) d := id rfl
@[simp] theorem neX_str (i : Str) (d : Dat) : neX (.str i) d = neD (.str i) d := id rfl
@[simp] theorem neX_bl (i : Bool) (d : Dat) : neX (.bl i) d = neD (.bl i) d := id rfl
@[simp] theorem neX_lst (i : List Dat) (d : Dat) : neX (.lst i) d = neD (.lst i) d := id rfl
@[simp] theorem neX_tup (i : List Dat) (d : Dat) : neX (.tup i) d = neD (.tup i) d := id rfl
@[simp] theorem neX_non (d : Dat) : neX .non d = neD .non d := id rfl
@[simp] theorem isD2_bl (i j : Bool) : isD2 (.bl i) (.bl j) = some (.bl (decide (i = j))) := id rfl
@[simp] theorem isntD2_bl (i j : Bool) : isntD2 (.bl i) (.bl j) = some (.bl (!decide (i = j))) := id rfl
@[simp] theorem sub_dct (ks : List Key) (xs : List Dat) (k : Str) : subD' (.dct ks xs) (.str k) = look ks xs (.inr k) := id rfl
@[simp] theorem sub_dcti (ks : List Key) (xs : List Dat) (k : Int) : subD' (.dct ks xs) (.int k) = look ks xs (.inl k) := id rfl
@[simp] theorem get1_str (ks : List Key) (xs : List Dat) (k : Str) : get1D (.dct ks xs) (.str k) = some ((look ks xs (.inr k)).getD .non) := id rfl
@[simp] theorem dict_dct (ks : List Key) (xs : List Dat) : dictD [.dct ks xs] = some (.dct ks xs) := id rfl
theorem bls_map {α : Type} (g : α → Bool) : ∀ xs : List α, bls (xs.map fun x => Dat.bl (g x)) = some (xs.map g)
  | [] => rfl
  | x :: xs => by
    rw [List.map_cons, bls, bls_map g xs]
    rfl
theorem any_map {α : Type} (g : α → Bool) (xs : List α) : anyD [.lst (xs.map fun x => Dat.bl (g x))] = some (.bl (xs.any g)) := by
  show (bls _).bind _ = _
  rw [bls_map, ob_some, List.any_map]
  rfl
theorem all_map {α : Type} (g : α → Bool) (xs : List α) : allD [.lst (xs.map fun x => Dat.bl (g x))] = some (.bl (xs.all g)) := by
  show (bls _).bind _ = _
  rw [bls_map, ob_some, List.all_map]
  rfl
/-! loops, turn by turn -/
theorem forGo_each {α : Type} {h : Dat → Rho → Option Rho} {b : Rho → Res} (g : α → Dat) (I : List α → Rho → Prop) : ∀ (xs : List α), (∀ pre x suf, xs = pre ++ x :: suf → ∀ ρ, I pre ρ → ∃ ρ1 ρ', h (g x) ρ = some ρ1 ∧ (b ρ1 = .nx ρ' ∨ b ρ1 = .cont ρ') ∧ I (pre ++ [x]) ρ') → ∀ ρ, I [] ρ → ∃ ρ', forGo h b (xs.map g) ρ = .nx ρ' ∧ I xs ρ' := by
  intro xs hs
  suffices H : ∀ (suf pre : List α), xs = pre ++ suf → ∀ ρ, I pre ρ → ∃ ρ', forGo h b (suf.map g) ρ = .nx ρ' ∧ I xs ρ' from fun ρ h0 => H xs [] rfl ρ h0
  intro suf
  induction suf with
  | nil =>
    intro pre e ρ hI
    rw [List.append_nil] at e
    subst e
    exact ⟨ρ, rfl, hI⟩
  | cons x suf ih =>
    intro pre e ρ hI
    obtain ⟨ρ1, ρ', e1, e2, e3⟩ := hs pre x suf e ρ hI
    obtain ⟨ρ2, q1, q2⟩ := ih (pre ++ [x]) (by rw [e, List.append_assoc]; rfl) ρ' e3
    refine ⟨ρ2, ?_, q2⟩
    rw [List.map_cons, forGo, e1]
    rcases e2 with e2 | e2
    · simp only [e2]
      exact q1
    · simp only [e2]
      exact q1
/-- a comprehension's row, unknown but of a kind -/
theorem lcGo_gen {α : Type} (g : α → Dat) (P : α → Prop) {h : Dat → Rho → Option Rho} {t : Rho → Option Bool} {f : Rho → Option Dat} {ρ : Rho} : ∀ (ds : List Dat), (∀ d ∈ ds, ∃ ρ1 b, h d ρ = some ρ1 ∧ t ρ1 = some b ∧ (b = true → ∃ a, f ρ1 = some (g a) ∧ P a)) → ∃ as : List α, lcGo h t f ρ ds = some (as.map g) ∧ as.length ≤ ds.length ∧ ∀ a ∈ as, P a
  | [], _ => ⟨[], rfl, Nat.le_refl _, fun _ h => by simp at h⟩
  | d :: ds, H => by
    obtain ⟨ρ1, b, e1, e2, e3⟩ := H d List.mem_cons_self
    obtain ⟨as, q1, q2, q3⟩ := lcGo_gen g P ds fun y hy => H y (List.mem_cons_of_mem _ hy)
    cases b with
    | false =>
      refine ⟨as, ?_, by rw [List.length_cons]; omega, q3⟩
      rw [lcGo, e1, Option.bind_some, e2, Option.bind_some, if_neg (by decide)]
      exact q1
    | true =>
      obtain ⟨a, f1, f2⟩ := e3 rfl
      refine ⟨a :: as, ?_, by rw [List.length_cons, List.length_cons]; omega, fun x hx => ?_⟩
      · rw [lcGo, e1, Option.bind_some, e2, Option.bind_some, if_pos rfl, f1, q1]
        rfl
      · rcases List.mem_cons.mp hx with rfl | hx
        · exact f2
        · exact q3 x hx
/-! rows of whole numbers -/
def nus (xs : List Int) : List Dat := xs.map Dat.int
theorem sims_ints : ∀ xs : List Int, sims (nus xs) = true
  | [] => rfl
  | x :: xs => by
    show sims (.int x :: nus xs) = true
    rw [sims, sims_ints xs]
    rfl
theorem dps_ints : ∀ xs : List Int, dps (nus xs) = 0
  | [] => rfl
  | x :: xs => by
    show dps (.int x :: nus xs) = 0
    rw [dps, dps_ints xs, dp]
    rfl
@[simp] theorem ints_inj {xs ys : List Int} : nus xs = nus ys ↔ xs = ys :=
  ⟨fun h => (List.map_inj_right (fun a b h => Dat.int.inj h)).mp h, fun h => by rw [h]⟩
@[simp] theorem eq_ints (xs ys : List Int) : eqD (.tup (nus xs)) (.tup (nus ys)) = some (.bl (decide (xs = ys))) := by
  rw [eq_sim (by rw [sim]; exact sims_ints _) (by rw [sim]; exact sims_ints _) (by rw [dp, dps_ints]; decide)]
  simp only [Dat.tup.injEq, ints_inj]
@[simp] theorem eq_ints0 (xs : List Int) : eqD (.tup (nus xs)) (.tup []) = some (.bl (decide (xs = []))) := eq_ints xs []
@[simp] theorem eq_nonints (xs : List Int) : eqD .non (.tup (nus xs)) = some (.bl false) := by
  rw [eq_sim rfl (by rw [sim]; exact sims_ints _) (by rw [dp]; decide)]
  simp
theorem pys_ints : ∀ xs : List Int, pys (nus xs) = xs.map PyData.int
  | [] => by rw [nus, List.map_nil, pys]; rfl
  | x :: xs => by
    show pys (.int x :: nus xs) = _
    rw [pys, pys_ints xs, py]
    rfl
theorem pls_ints (xs : List Int) : pls (nus xs) = true := by
  rw [pls_all, List.all_eq_true]
  intro d hd
  obtain ⟨i, _, rfl⟩ := List.mem_map.mp hd
  rw [pl]
theorem lt_intsP (xs ys : List Int) : PySem.W.dataLt (py (.tup (nus xs))) (py (.tup (nus ys))) = decide (xs < ys) := by
  rw [py, py, pys_ints, pys_ints, PySem.W.dataLt_tuple]
  exact PySem.W.dataLt_ints xs ys
theorem ord_ints (xs ys : List Int) : ordP (.tup (nus xs)) (.tup (nus ys)) := by
  refine ⟨by rw [pl, pls_ints], by rw [pl, pls_ints], ?_, ?_, ?_⟩
  · rw [py, py, pys_ints, pys_ints, PySem.W.alike]
    exact PySem.W.alike_ints xs ys
  · rw [py]
    intro z
    cases z
  · rw [py, pys_ints, PyData.depth, PySem.W.depth_ints]
    omega
theorem ordX_ints (f : PyData → PyData → Bool) (g : Dat → Dat → Option Dat) (xs ys : List Int) : ordX f g (.tup (nus xs)) (.tup (nus ys)) = some (.bl (f (py (.tup (nus xs))) (py (.tup (nus ys))))) := by
  unfold ordX
  rw [if_pos (by rfl)]
  exact ifp (ord_ints xs ys)
@[simp] theorem lt_ints (xs ys : List Int) : ltX (.tup (nus xs)) (.tup (nus ys)) = some (.bl (decide (xs < ys))) := by
  unfold ltX
  rw [ordX_ints, lt_intsP]
@[simp] theorem ge_ints (xs ys : List Int) : geX (.tup (nus xs)) (.tup (nus ys)) = some (.bl (!decide (xs < ys))) := by
  unfold geX
  rw [ordX_ints, lt_intsP]
@[simp] theorem le_ints (xs ys : List Int) : leX (.tup (nus xs)) (.tup (nus ys)) = some (.bl (!decide (ys < xs))) := by
  unfold leX
  rw [ordX_ints, lt_intsP]
/-! sorting -/
theorem leY_tr (a b c : Dat) (h : leY a b = true) (h' : leY b c = true) : leY a c = true := by
  unfold leY PySem.W.dataLt at *
  rw [Bool.not_eq_true'] at *
  cases q : PyProof.Rows.lexLt itemOrd (PySem.W.keyToks (py c)) (PySem.W.keyToks (py a)) with
  | false => rfl
  | true =>
    rcases lex_negTrans _ (PySem.W.keyToks (py b)) _ q with z | z
    · rw [z] at h'; cases h'
    · rw [z] at h; cases h
theorem leY_tot (a b : Dat) : (leY a b || leY b a) = true := by
  unfold leY PySem.W.dataLt
  cases q : PyProof.Rows.lexLt itemOrd (PySem.W.keyToks (py b)) (PySem.W.keyToks (py a)) with
  | false => rfl
  | true =>
    cases q' : PyProof.Rows.lexLt itemOrd (PySem.W.keyToks (py a)) (PySem.W.keyToks (py b)) with
    | false => rfl
    | true =>
      have := lex_trans _ _ _ q q'
      rw [lex_irrefl] at this
      cases this
def tokA : Dat → Int ⊕ List Nat
  | .int i => .inl i
  | .str x => .inr x.cps.toList
  | _ => .inl 0
theorem toks_atm {d : Dat} (h : atm d = true) : PySem.W.keyToks (py d) = [tokA d] := by
  cases d <;> first | (cases h; done) | skip
  all_goals rw [py, PySem.W.keyToks]; rfl
theorem tokA_inj {d d' : Dat} (h : atm d = true) (h' : atm d' = true) (e : tokA d = tokA d') : d = d' := by
  cases d <;> first | (cases h; done) | skip
  all_goals cases d' <;> first | (cases h'; done) | skip
  · rw [tokA, tokA] at e
    cases e
    rfl
  · cases e
  · cases e
  · rw [tokA, tokA] at e
    rw [PySem.W.str_of_cps (Sum.inr.inj e)]
theorem toks_inj : ∀ {xs ys : List Dat}, xs.all atm = true → ys.all atm = true → PySem.W.keyToksAll (pys xs) = PySem.W.keyToksAll (pys ys) → xs = ys
  | [], [], _, _, _ => rfl
  | [], y :: ys, _, _, e => by
    rw [pys, pys, PySem.W.keyToksAll, PySem.W.keyToksAll] at e
    simp at e
  | x :: xs, [], _, _, e => by
    rw [pys, pys, PySem.W.keyToksAll, PySem.W.keyToksAll] at e
    simp at e
  | x :: xs, y :: ys, h1, h2, e => by
    rw [List.all_cons, Bool.and_eq_true] at h1 h2
    rw [pys, pys, PySem.W.keyToksAll, PySem.W.keyToksAll, toks_atm h1.1, toks_atm h2.1] at e
    simp only [List.cons_append, List.nil_append, List.cons.injEq, true_and] at e
    rw [tokA_inj h1.1 h2.1 e.1, toks_inj h1.2 h2.2 e.2]
theorem flt_anti {d d' : Dat} (h : fltT d) (h' : fltT d') (a : leY d d' = true) (b : leY d' d = true) : d = d' := by
  obtain ⟨x, xs, rfl, hx⟩ := h
  obtain ⟨y, ys, rfl, hy⟩ := h'
  unfold leY PySem.W.dataLt at a b
  rw [Bool.not_eq_true'] at a b
  have := lex_total _ _ b a
  rw [py, py, PySem.W.keyToks, PySem.W.keyToks] at this
  rw [toks_inj (by rw [List.all_cons, hx]; rfl) (by rw [List.all_cons, hy]; rfl) this]
theorem sort_perm {l l' : List Dat} (p : l.Perm l') (h : ∀ d ∈ l, fltT d) : l.mergeSort leY = l'.mergeSort leY := by
  have q : (l.mergeSort leY).Perm (l'.mergeSort leY) := (List.mergeSort_perm l leY).trans (p.trans (List.mergeSort_perm l' leY).symm)
  refine List.Perm.eq_of_pairwise (fun a b ha hb => flt_anti (h a ((List.mergeSort_perm l leY).mem_iff.mp ha)) (h b (p.mem_iff.mpr ((List.mergeSort_perm l' leY).mem_iff.mp hb)))) (List.pairwise_mergeSort leY_tr leY_tot l) (List.pairwise_mergeSort leY_tr leY_tot l') q
@[simp] theorem sortQ_flt {ds : List Dat} (h : srtQ ds) : sortQ [.lst ds] = some (.lst (ds.mergeSort leY)) := ifp h
theorem sortQ_dct {ks : List Str} {xs : List Dat} (h : ks.length < 64) : sortQ [.dct (ks.map Sum.inr) xs] = some (.lst (txs (ks.mergeSort strLe))) := by
  show (keysT (ks.map Sum.inr)).bind _ = _
  have : ∀ ks : List Str, keysT (ks.map Sum.inr) = some ks := fun ks => by
    induction ks with
    | nil => rfl
    | cons k ks ih => rw [List.map_cons, keysT, ih]; rfl
  rw [this, ob_some]
  exact ifp h
theorem look_map {α : Type} (k : α → Str) (v : α → Dat) : ∀ {xs : List α} {x : α}, (xs.map k).Nodup → x ∈ xs → look (xs.map fun x => Sum.inr (k x)) (xs.map v) (.inr (k x)) = some (v x)
  | y :: ys, x, nd, h => by
    rw [List.map_cons, List.map_cons, look]
    rcases List.mem_cons.mp h with rfl | h
    · rw [if_pos rfl]
    · rw [List.map_cons, List.nodup_cons] at nd
      rw [if_neg fun z => nd.1 (by rw [Sum.inr.inj z]; exact List.mem_map_of_mem h), look_map k v nd.2 h]
theorem look_none {α : Type} (k : α → Str) (v : α → Dat) (j : Str) : ∀ {xs : List α}, j ∉ xs.map k → look (xs.map fun x => Sum.inr (k x)) (xs.map v) (.inr j) = none
  | [], _ => rfl
  | y :: ys, h => by
    rw [List.map_cons, List.mem_cons, not_or] at h
    rw [List.map_cons, List.map_cons, look, if_neg fun z => h.1 (Sum.inr.inj z).symm, look_none k v j h.2]
end
end Pq

namespace Pq
open PySem PySem.Spec PyProof.Rows L2
noncomputable section
/-! ### working out what changes the store -/
@[simp] theorem z_bind {α β : Type} (z : Sto) (x : α) (f : Sto → α → EZ β) : EZ.bind (.ok z x) f = f z x := id rfl
@[simp] theorem z_bexc {α β : Type} (z : Sto) (n : Str) (f : Sto → α → EZ β) : EZ.bind (.exc z n) f = .exc z n := id rfl
def oz {α : Type} (z : Sto) (o : Option α) : EZ α := match o with
  | some x => .ok z x
  | none => .bad
@[simp] theorem oz_some {α : Type} (z : Sto) (x : α) : oz z (some x) = .ok z x := id rfl
@[simp] theorem z_lif {α : Type} (f : Sto → Rho → Option α) (z : Sto) (ρ : Rho) : lif f z ρ = oz z (f z ρ) := by
  unfold lif oz; cases f z ρ <;> rfl
@[simp] theorem z_optZ (z : Sto) (o : Option Dat) : optZ z o = oz z o := by
  unfold optZ oz; cases o <;> rfl
@[simp] theorem z_subZ (fa fb : Sto → Rho → EZ Dat) (z : Sto) (ρ : Rho) : subZ fa fb z ρ = (fa z ρ).bind fun z1 o => (fb z1 ρ).bind fun z2 k => oz z2 (subZD z2 o k) := by
  unfold subZ; simp
@[simp] theorem z_fldZ (cs : List Str) (f : Str) (fa : Sto → Rho → EZ Dat) (z : Sto) (ρ : Rho) : fldZ cs f fa z ρ = (fa z ρ).bind fun z1 d => oz z1 (fldZD cs f z1 d) := by
  unfold fldZ; simp
@[simp] theorem z_consZ (f : Sto → Rho → EZ Dat) (g : Sto → Rho → EZ (List Dat)) (z : Sto) (ρ : Rho) : consZ f g z ρ = (f z ρ).bind fun z1 x => (g z1 ρ).bind fun z2 xs => .ok z2 (x :: xs) := id rfl
@[simp] theorem z_nilZ (z : Sto) (ρ : Rho) : nilZ z ρ = .ok z [] := id rfl
@[simp] theorem z_aloE (f : Sto → Rho → Option SV) (z : Sto) (ρ : Rho) : aloE f z ρ = (oz z (f z ρ)).bind fun z1 sv => .ok (alo z1 sv).1 (alo z1 sv).2 := by
  unfold aloE; cases f z ρ <;> rfl
@[simp] theorem z_bmZ (kind : Sto → Dat → Bool) (op : Sto → Dat → List Dat → EZ Dat) (fo : Sto → Rho → EZ Dat) (fa : Sto → Rho → EZ (List Dat)) (z : Sto) (ρ : Rho) : bmZ kind op fo fa z ρ = (fo z ρ).bind fun z1 d => if kind z1 d = true then (fa z1 ρ).bind fun z2 ds => op z2 d ds else .bad := id rfl
@[simp] theorem z_mkSZ (g : Addr → List Dat → Option SV) (cn : Str) (fs : Sto → Rho → EZ (List Dat)) (z : Sto) (ρ : Rho) : mkSZ g cn fs z ρ = (fs z ρ).bind fun z1 ds => oz z1 ((sns z1 ds).bind (mkF g cn)) := by
  unfold mkSZ; simp
@[simp] theorem z_toRZ {α : Type} (z : Sto) (x : α) (ρ : Rho) (k : Sto → α → RZ) : toRZ (.ok z x) ρ k = k z x := id rfl
@[simp] theorem z_toRX {α : Type} (z : Sto) (n : Str) (ρ : Rho) (k : Sto → α → RZ) : toRZ (.exc z n) ρ k = .exc z ρ n := id rfl
@[simp] theorem z_asgZ (i : Nat) (f : Sto → Rho → EZ Dat) (z : Sto) (ρ : Rho) : asgZ i f z ρ = toRZ (f z ρ) ρ fun z d => .nx z (ρ.set i (some (.fro d))) := id rfl
@[simp] theorem z_retZ (f : Sto → Rho → EZ Dat) (z : Sto) (ρ : Rho) : retZ f z ρ = toRZ (f z ρ) ρ fun z d => .ret z d := id rfl
@[simp] theorem z_rtNZ (z : Sto) (ρ : Rho) : rtNZ z ρ = .ret z .non := id rfl
@[simp] theorem z_drpZ (f : Sto → Rho → EZ Dat) (z : Sto) (ρ : Rho) : drpZ f z ρ = toRZ (f z ρ) ρ fun z _ => .nx z ρ := id rfl
@[simp] theorem z_ifZ (t : Sto → Rho → EZ Bool) (b b' : Sto → Rho → RZ) (z : Sto) (ρ : Rho) : ifZ t b b' z ρ = toRZ (t z ρ) ρ fun z k => if k = true then b z ρ else b' z ρ := by
  unfold ifZ
  congr 1
  funext z k
  cases k <;> simp
@[simp] theorem z_nilSZ (z : Sto) (ρ : Rho) : nilSZ z ρ = .nx z ρ := id rfl
def thz (r : RZ) (c : Sto → Rho → RZ) : RZ := match r with
  | .nx z ρ => c z ρ
  | r => r
@[simp] theorem thz_nx (z : Sto) (ρ : Rho) (c : Sto → Rho → RZ) : thz (.nx z ρ) c = c z ρ := id rfl
@[simp] theorem thz_ret (z : Sto) (d : Dat) (c : Sto → Rho → RZ) : thz (.ret z d) c = .ret z d := id rfl
@[simp] theorem thz_exc (z : Sto) (ρ : Rho) (n : Str) (c : Sto → Rho → RZ) : thz (.exc z ρ n) c = .exc z ρ n := id rfl
@[simp] theorem thz_brk (z : Sto) (ρ : Rho) (c : Sto → Rho → RZ) : thz (.brk z ρ) c = .brk z ρ := id rfl
@[simp] theorem thz_cont (z : Sto) (ρ : Rho) (c : Sto → Rho → RZ) : thz (.cont z ρ) c = .cont z ρ := id rfl
@[simp] theorem z_seqZ (b b' : Sto → Rho → RZ) (z : Sto) (ρ : Rho) : seqZ b b' z ρ = thz (b z ρ) b' := by
  unfold seqZ thz; rfl
@[simp] theorem z_forZ (it : Sto → Rho → EZ (List Dat)) (h : Dat → Rho → Option Rho) (b : Sto → Rho → RZ) (z : Sto) (ρ : Rho) : forZ it h b z ρ = toRZ (it z ρ) ρ fun z ds => forGoZ h b ds z ρ := id rfl
def finZ : RZ → Option OZ
  | .ret z d => some (.ok z d)
  | .nx z _ => some (.ok z .non)
  | .exc z _ n => some (.exc z n)
  | _ => none
@[simp] theorem finZ_ret (z : Sto) (d : Dat) : finZ (.ret z d) = some (.ok z d) := id rfl
@[simp] theorem finZ_nx (z : Sto) (ρ : Rho) : finZ (.nx z ρ) = some (.ok z .non) := id rfl
@[simp] theorem finZ_exc (z : Sto) (ρ : Rho) (n : Str) : finZ (.exc z ρ n) = some (.exc z n) := id rfl
@[simp] theorem z_fnZ (n m : Nat) (b : Sto → Rho → RZ) (z : Sto) (ds : List Dat) : fnZ n m b z ds = if ds.length = m then finZ (b z (startR n ds)) else none := by
  unfold fnZ finZ; rfl
@[simp] theorem ozE_ok (z : Sto) (d : Dat) : ozE (some (.ok z d)) = .ok z d := id rfl
@[simp] theorem ozE_exc (z : Sto) (n : Str) : ozE (some (.exc z n)) = .exc z n := id rfl
@[simp] theorem z_callZ (g : Sto → List Dat → Option OZ) (fa : Sto → Rho → EZ (List Dat)) (z : Sto) (ρ : Rho) : callZ g fa z ρ = (fa z ρ).bind fun z1 ds => ozE (g z1 ds) := id rfl
@[simp] theorem z_methZ (cn m : Str) (g : Sto → List Dat → Option OZ) (fo : Sto → Rho → EZ Dat) (fa : Sto → Rho → EZ (List Dat)) (z : Sto) (ρ : Rho) : methZ cn m g fo fa z ρ = (fo z ρ).bind fun z1 d => if isIn z1 cn m d = true then (fa z1 ρ).bind fun z2 ds => ozE (g z2 (d :: ds)) else .bad := id rfl
/-! the store, by places -/
@[simp] theorem st_0 (z l : Sto) : (z ++ l)[z.length]? = l[0]? := by rw [List.getElem?_append_right (Nat.le_refl _), Nat.sub_self]
@[simp] theorem st_n (z l : Sto) (n : Nat) : (z ++ l)[z.length + n]? = l[n]? := by rw [List.getElem?_append_right (Nat.le_add_right _ _), Nat.add_sub_cancel_left]
@[simp] theorem st_s0 (z l : Sto) (c : Cel) : (z ++ l).set z.length c = z ++ l.set 0 c := by rw [List.set_append_right _ _ (Nat.le_refl _), Nat.sub_self]
@[simp] theorem st_sn (z l : Sto) (n : Nat) (c : Cel) : (z ++ l).set (z.length + n) c = z ++ l.set n c := by rw [List.set_append_right _ _ (Nat.le_add_right _ _), Nat.add_sub_cancel_left]
def subC (k : Dat) : Cel → Option Dat
  | .lst xs => match k with
    | .int i => atI xs i
    | _ => none
  | .dct ks xs => (isK k).bind fun k => getA (ks.zip xs) k
  | .obj _ _ _ => none
  | .err _ => none
  | .gone => none
@[simp] theorem subC_l (i : Int) (xs : List Dat) : subC (.int i) (.lst xs) = atI xs i := id rfl
@[simp] theorem subC_d (x : Str) (ks : List Key) (xs : List Dat) : subC (.str x) (.dct ks xs) = getA (ks.zip xs) (.inr x) := id rfl
@[simp] theorem subZ_cel (z : Sto) (j : Nat) (k : Dat) : subZD z (.cel j) k = (z[j]?).bind (subC k) := by
  unfold subZD
  cases h : z[j]? with
  | none => simp only [h]; rfl
  | some c => cases c <;> simp only [h] <;> rfl
@[simp] theorem subZ_tup (z : Sto) (xs : List Dat) (i : Int) : subZD z (.tup xs) (.int i) = atI xs i := id rfl
@[simp] theorem subZ_lst (z : Sto) (xs : List Dat) (i : Int) : subZD z (.lst xs) (.int i) = atI xs i := id rfl
def clf : Option Cel → Option (List Dat)
  | some (.lst xs) => some xs
  | _ => none
@[simp] theorem clf_l (xs : List Dat) : clf (some (.lst xs)) = some xs := id rfl
@[simp] theorem isL_cel (z : Sto) (k : Nat) : isL z (.cel k) = (clf z[k]?).isSome := by
  unfold isL clf
  cases h : z[k]? with
  | none => simp only [h]; rfl
  | some c => cases c <;> simp only [h] <;> rfl
theorem appD_is {z : Sto} {k : Nat} {xs : List Dat} {d : Dat} (h : z[k]? = some (.lst xs)) (hl : xs.length < 16777216) : appD z (.cel k) [d] = .ok (z.set k (.lst (xs ++ [d]))) .non := by
  unfold appD
  simp only [h]
  exact if_pos (by rw [size_is]; exact hl)
theorem clrD_is {z : Sto} {k : Nat} {xs : List Dat} (h : z[k]? = some (.lst xs)) : clrD z (.cel k) [] = .ok (z.set k (.lst [])) .non := by
  unfold clrD
  simp only [h]
def appX (z : Sto) (k : Nat) (d : Dat) (o : Option (List Dat)) : EZ Dat := match o with
  | some xs => @ite _ (xs.length < sizeLine) (Classical.propDecidable _) (.ok (z.set k (.lst (xs ++ [d]))) .non) .bad
  | none => .bad
@[simp] theorem appX_some {z : Sto} {k : Nat} {d : Dat} {xs : List Dat} (h : xs.length < 16777216) : appX z k d (some xs) = .ok (z.set k (.lst (xs ++ [d]))) .non := by
  unfold appX
  exact if_pos (by rw [size_is]; exact h)
@[simp] theorem appD_cel (z : Sto) (k : Nat) (d : Dat) : appD z (.cel k) [d] = appX z k d (clf z[k]?) := by
  unfold appD appX clf
  cases h : z[k]? with
  | none => simp only [h]
  | some c => cases c <;> simp only [h]
def clrX (z : Sto) (k : Nat) (o : Option (List Dat)) : EZ Dat := match o with
  | some _ => .ok (z.set k (.lst [])) .non
  | none => .bad
@[simp] theorem clrX_some (z : Sto) (k : Nat) (xs : List Dat) : clrX z k (some xs) = .ok (z.set k (.lst [])) .non := id rfl
@[simp] theorem clrD_cel (z : Sto) (k : Nat) (ds : List Dat) : clrD z (.cel k) ds = clrX z k (clf z[k]?) := by
  unfold clrD clrX clf
  cases h : z[k]? with
  | none => simp only [h]
  | some c => cases c <;> simp only [h]
def nz {α : Type} (o : Option α) (k : α → RZ) : RZ := match o with
  | some x => k x
  | none => .bad
@[simp] theorem nz_some {α : Type} (x : α) (k : α → RZ) : nz (some x) k = k x := id rfl
def thg (r : RZ) (k : Sto → Rho → RZ) : RZ := match r with
  | .nx z ρ => k z ρ
  | .cont z ρ => k z ρ
  | .brk z ρ => .nx z ρ
  | r => r
@[simp] theorem thg_nx (z : Sto) (ρ : Rho) (k : Sto → Rho → RZ) : thg (.nx z ρ) k = k z ρ := id rfl
@[simp] theorem thg_cont (z : Sto) (ρ : Rho) (k : Sto → Rho → RZ) : thg (.cont z ρ) k = k z ρ := id rfl
@[simp] theorem thg_brk (z : Sto) (ρ : Rho) (k : Sto → Rho → RZ) : thg (.brk z ρ) k = .nx z ρ := id rfl
@[simp] theorem thg_ret (z : Sto) (d : Dat) (k : Sto → Rho → RZ) : thg (.ret z d) k = .ret z d := id rfl
@[simp] theorem thg_exc (z : Sto) (ρ : Rho) (n : Str) (k : Sto → Rho → RZ) : thg (.exc z ρ n) k = .exc z ρ n := id rfl
@[simp] theorem forGoZ_cons (h : Dat → Rho → Option Rho) (b : Sto → Rho → RZ) (d : Dat) (ds : List Dat) (z : Sto) (ρ : Rho) : forGoZ h b (d :: ds) z ρ = nz (h d ρ) fun ρ1 => thg (b z ρ1) fun z' ρ' => forGoZ h b ds z' ρ' := by
  rw [forGoZ]
  cases h d ρ with
  | none => rfl
  | some ρ1 =>
    simp only [nz_some]
    cases b z ρ1 <;> rfl
/-! snapshots -/
@[simp] theorem sn_cel (z : Sto) (k : Nat) : sn z (.cel k) = snN 8 z k := id rfl
@[simp] theorem snN_s (n : Nat) (z : Sto) (k : Nat) : snN (n + 1) z k = (z[k]?).bind (snK (snN n z)) := id rfl
@[simp] theorem snK_l (g : Nat → Option Dat) (xs : List Dat) : snK g (.lst xs) = (snDs g xs).bind fun ys => some (.lst ys) := by show Option.map _ _ = _; cases snDs g xs <;> rfl
@[simp] theorem snK_d (g : Nat → Option Dat) (ks : List Key) (xs : List Dat) : snK g (.dct ks xs) = (snDs g xs).bind fun ys => some (.dct ks ys) := by show Option.map _ _ = _; cases snDs g xs <;> rfl
@[simp] theorem snK_o (g : Nat → Option Dat) (c : Str) (fs : List Str) (xs : List Dat) : snK g (.obj c fs xs) = (snDs g xs).bind fun ys => some (.obj c fs ys) := by show Option.map _ _ = _; cases snDs g xs <;> rfl
@[simp] theorem snDs_nil (g : Nat → Option Dat) : snDs g [] = some [] := by rw [snDs]
@[simp] theorem snDs_cons (g : Nat → Option Dat) (x : Dat) (xs : List Dat) : snDs g (x :: xs) = (snD g x).bind fun y => (snDs g xs).bind fun ys => some (y :: ys) := by rw [snDs]
@[simp] theorem snD_str (g : Nat → Option Dat) (x : Str) : snD g (.str x) = some (.str x) := by rw [snD]
@[simp] theorem snD_int (g : Nat → Option Dat) (x : Int) : snD g (.int x) = some (.int x) := by rw [snD]
@[simp] theorem snD_non (g : Nat → Option Dat) : snD g .non = some .non := by rw [snD]
@[simp] theorem snD_bl (g : Nat → Option Dat) (b : Bool) : snD g (.bl b) = some (.bl b) := by rw [snD]
@[simp] theorem snD_cel (g : Nat → Option Dat) (k : Nat) : snD g (.cel k) = g k := by rw [snD]
@[simp] theorem snD_tup (g : Nat → Option Dat) (xs : List Dat) : snD g (.tup xs) = (snDs g xs).bind fun ys => some (.tup ys) := by rw [snD]; cases snDs g xs <;> rfl
@[simp] theorem snD_lst (g : Nat → Option Dat) (xs : List Dat) : snD g (.lst xs) = (snDs g xs).bind fun ys => some (.lst ys) := by rw [snD]; cases snDs g xs <;> rfl
@[simp] theorem sns_is (z : Sto) (ds : List Dat) : sns z ds = snDs (snN 8 z) ds := id rfl
theorem ncls_txs : ∀ xs : List Str, ncls (txs xs) = true
  | [] => rfl
  | x :: xs => by rw [txs_cons, ncls, ncls_txs xs]; rfl
theorem ncls_nus : ∀ xs : List Int, ncls (nus xs) = true
  | [] => rfl
  | x :: xs => by show ncls (.int x :: nus xs) = true; rw [ncls, ncls_nus xs]; rfl
@[simp] theorem snDs_txs (g : Nat → Option Dat) (xs : List Str) : snDs g (txs xs) = some (txs xs) := snDs_ncl g _ (ncls_txs xs)
@[simp] theorem snDs_nus (g : Nat → Option Dat) (xs : List Int) : snDs g (nus xs) = some (nus xs) := snDs_ncl g _ (ncls_nus xs)
theorem tfls_txs : ∀ xs : List Str, tfls (txs xs) = true
  | [] => rfl
  | x :: xs => by rw [txs_cons, tfls, tfls_txs xs]; rfl
theorem tfls_nus : ∀ xs : List Int, tfls (nus xs) = true
  | [] => rfl
  | x :: xs => by show tfls (.int x :: nus xs) = true; rw [tfls, tfls_nus xs]; rfl
theorem tfvs_fro : ∀ xs : List Dat, tfvs (xs.map SV.fro) = tfls xs
  | [] => rfl
  | x :: xs => by rw [List.map_cons, tfvs, tfls, tfv, tfvs_fro xs]
/-! new things -/
def lcOOC (ds : List Dat) (r : Option SV) : Option SV := @ite _ (ds.length ≤ sizeLine) (Classical.propDecidable _) r none
@[simp] theorem m_lcOOC {ds : List Dat} {r : Option SV} (h : ds.length ≤ 16777216) : lcOOC ds r = r := ifp h
@[simp] theorem m_lcOO (it : Rho → Option (List Dat)) (vs : List Nat) (h : Dat → Rho → Option Rho) (t : Rho → Option Bool) (f : Rho → Option SV) (ρ : Rho) : lcOO it vs h t f ρ = (it ρ).bind fun ds => lcOOC ds ((lcGoO h t f (wipeR ρ vs) ds).bind fun xs => some (.ol xs)) := by
  unfold lcOO lcOOC
  congr 1
  funext ds
  cases lcGoO h t f (wipeR ρ vs) ds <;> rfl
@[simp] theorem lcGoO_nil (h : Dat → Rho → Option Rho) (t : Rho → Option Bool) (f : Rho → Option SV) (ρ : Rho) : lcGoO h t f ρ [] = some [] := id rfl
@[simp] theorem lcGoO_cons (h : Dat → Rho → Option Rho) (t : Rho → Option Bool) (f : Rho → Option SV) (ρ : Rho) (d : Dat) (ds : List Dat) : lcGoO h t f ρ (d :: ds) = (h d ρ).bind fun ρ1 => (t ρ1).bind fun c => if c = true then (f ρ1).bind fun y => (lcGoO h t f ρ ds).bind fun ys => some (y :: ys) else lcGoO h t f ρ ds := by
  rw [lcGoO]
  congr 1
  funext ρ1
  congr 1
  funext c
  cases c with
  | true =>
    simp only [↓reduceIte]
    congr 1
    funext y
    cases lcGoO h t f ρ ds <;> rfl
  | false => rfl
@[simp] theorem alos_fro : ∀ (xs : List Dat) (z : Sto), alos z (xs.map SV.fro) = (z, xs)
  | [], z => by rw [List.map_nil, alos]
  | x :: xs, z => by rw [List.map_cons, alos, alo, alos_fro xs z]
@[simp] theorem alo_fro (z : Sto) (d : Dat) : alo z (.fro d) = (z, d) := by rw [alo]
@[simp] theorem alo_ol (z : Sto) (xs : List SV) : alo z (.ol xs) = ((alos z xs).1 ++ [.lst (alos z xs).2], .cel (alos z xs).1.length) := by rw [alo]
@[simp] theorem alo_od (z : Sto) (ks : List Key) (xs : List SV) : alo z (.od ks xs) = ((alos z xs).1 ++ [.dct ks (alos z xs).2], .cel (alos z xs).1.length) := by rw [alo]
@[simp] theorem alo_tp (z : Sto) (xs : List SV) : alo z (.tp xs) = ((alos z xs).1, .tup (alos z xs).2) := by rw [alo]
@[simp] theorem alos_nil (z : Sto) : alos z [] = (z, []) := by rw [alos]
@[simp] theorem alos_cons (z : Sto) (x : SV) (xs : List SV) : alos z (x :: xs) = ((alos (alo z x).1 xs).1, (alo z x).2 :: (alos (alo z x).1 xs).2) := by rw [alos]
@[simp] theorem forGoZ_nil (h : Dat → Rho → Option Rho) (b : Sto → Rho → RZ) (z : Sto) (ρ : Rho) : forGoZ h b [] z ρ = .nx z ρ := by rw [forGoZ]
/-- a loop, turn by turn -/
theorem forZ_each {α : Type} {h : Dat → Rho → Option Rho} {b : Sto → Rho → RZ} (g : α → Dat) (I : List α → Sto → Rho → Prop) : ∀ (xs : List α), (∀ pre x suf, xs = pre ++ x :: suf → ∀ z ρ, I pre z ρ → ∃ ρ1 z' ρ', h (g x) ρ = some ρ1 ∧ (b z ρ1 = .nx z' ρ' ∨ b z ρ1 = .cont z' ρ') ∧ I (pre ++ [x]) z' ρ') → ∀ z ρ, I [] z ρ → ∃ z' ρ', forGoZ h b (xs.map g) z ρ = .nx z' ρ' ∧ I xs z' ρ' := by
  intro xs
  have key : ∀ (suf pre : List α), xs = pre ++ suf → (∀ pre x suf, xs = pre ++ x :: suf → ∀ z ρ, I pre z ρ → ∃ ρ1 z' ρ', h (g x) ρ = some ρ1 ∧ (b z ρ1 = .nx z' ρ' ∨ b z ρ1 = .cont z' ρ') ∧ I (pre ++ [x]) z' ρ') → ∀ z ρ, I pre z ρ → ∃ z' ρ', forGoZ h b (suf.map g) z ρ = .nx z' ρ' ∧ I xs z' ρ' := by
    intro suf
    induction suf with
    | nil =>
      intro pre e _ z ρ hi
      rw [List.append_nil] at e
      subst e
      exact ⟨z, ρ, rfl, hi⟩
    | cons x suf ih =>
      intro pre e hs z ρ hi
      obtain ⟨ρ1, z', ρ', h1, h2, h3⟩ := hs pre x suf e z ρ hi
      obtain ⟨z2, ρ2, h4, h5⟩ := ih (pre ++ [x]) (by rw [List.append_assoc]; exact e) hs z' ρ' h3
      refine ⟨z2, ρ2, ?_, h5⟩
      rw [List.map_cons, forGoZ]
      simp only [h1]
      rcases h2 with h2 | h2 <;> simp only [h2] <;> exact h4
  exact fun hs z ρ hi => key xs [] rfl hs z ρ hi
end
end Pq

namespace Pq
open PySem PySem.Spec PyProof.Rows L2
noncomputable section
/-! ### more of the working out -/
def sl (y : Option Dat) : Option SV := y.map SV.fro
@[simp] theorem sl_some (d : Dat) : sl (some d) = some (.fro d) := id rfl
@[simp] theorem sl_none : sl none = none := id rfl
@[simp] theorem allF_nil : allF [] = true := id rfl
@[simp] theorem allF_fro (d : Dat) (ρ : Rho) : allF (some (.fro d) :: ρ) = allF ρ := by unfold allF; rw [List.all_cons]; rfl
@[simp] theorem allF_none (ρ : Rho) : allF (none :: ρ) = allF ρ := by unfold allF; rw [List.all_cons]; rfl
@[simp] theorem allF_sl (y : Option Dat) (ρ : Rho) : allF (sl y :: ρ) = allF ρ := by cases y <;> simp
def lfR (z : Sto) (r : Res) : RZ := match r with
  | .nx ρ' => if allF ρ' = true then .nx z ρ' else .bad
  | .brk ρ' => if allF ρ' = true then .brk z ρ' else .bad
  | .cont ρ' => if allF ρ' = true then .cont z ρ' else .bad
  | .ret (.fro d) => .ret z d
  | _ => .bad
@[simp] theorem lfR_nx (z : Sto) {ρ : Rho} (h : allF ρ = true) : lfR z (.nx ρ) = .nx z ρ := if_pos h
@[simp] theorem lfR_ret (z : Sto) (d : Dat) : lfR z (.ret (.fro d)) = .ret z d := id rfl
@[simp] theorem z_lifS (b : Sto → Rho → Res) (z : Sto) (ρ : Rho) : lifS b z ρ = lfR z (b z ρ) := by
  unfold lifS lfR
  rfl
def snS (z : Sto) (o : Option SV) : Option SV := match o with
  | some (.fro d) => sl (sn z d)
  | _ => none
@[simp] theorem snS_fro (z : Sto) (d : Dat) : snS z (some (.fro d)) = sl (sn z d) := id rfl
@[simp] theorem snS_none (z : Sto) : snS z none = none := id rfl
@[simp] theorem snR_nil (z : Sto) : snR z [] = [] := id rfl
@[simp] theorem snR_cons (z : Sto) (x : Option SV) (ρ : Rho) : snR z (x :: ρ) = snS z x :: snR z ρ := by
  unfold snR
  rw [List.map_cons]
  cases x with
  | none => rfl
  | some sv => cases sv <;> rfl
@[simp] theorem sn_str (z : Sto) (x : Str) : sn z (.str x) = some (.str x) := id rfl
@[simp] theorem sn_int (z : Sto) (x : Int) : sn z (.int x) = some (.int x) := id rfl
@[simp] theorem sn_non (z : Sto) : sn z .non = some .non := id rfl
@[simp] theorem sn_bl (z : Sto) (b : Bool) : sn z (.bl b) = some (.bl b) := id rfl
theorem sn_ncl (z : Sto) {d : Dat} (h : ncl d = true) : sn z d = some d := snD_ncl _ _ h
@[simp] theorem sn_txs (z : Sto) (xs : List Str) : sn z (.lst (txs xs)) = some (.lst (txs xs)) := sn_ncl z (by rw [ncl]; exact ncls_txs xs)
@[simp] theorem sn_ttxs (z : Sto) (xs : List Str) : sn z (.tup (txs xs)) = some (.tup (txs xs)) := sn_ncl z (by rw [ncl]; exact ncls_txs xs)
@[simp] theorem sn_nus (z : Sto) (xs : List Int) : sn z (.tup (nus xs)) = some (.tup (nus xs)) := sn_ncl z (by rw [ncl]; exact ncls_nus xs)
theorem ncls_ints : ∀ ns : List Int, ncls (ns.map Dat.int) = true := ncls_nus
@[simp] theorem sn_scr (z : Sto) (ns : List Int) : sn z (.scr (ns.map Dat.int)) = some (.scr (ns.map Dat.int)) := sn_ncl z (by rw [ncl]; exact ncls_ints ns)
def snfZ (z : Sto) (sv : SV) : EZ Dat := if tfv sv = true then .ok z (frz sv) else .bad
@[simp] theorem snfZ_ok (z : Sto) {sv : SV} (h : tfv sv = true) : snfZ z sv = .ok z (frz sv) := if_pos h
@[simp] theorem z_snF' (f : Rho → Option SV) (z : Sto) (ρ : Rho) : snF f z ρ = (oz z (f (snR z ρ))).bind snfZ := by
  unfold snF
  cases f (snR z ρ) <;> rfl
def sncZ (z : Sto) (sv : SV) : EZ Dat := if tfv sv = true then .ok (alo z sv).1 (alo z sv).2 else .bad
@[simp] theorem sncZ_ok (z : Sto) {sv : SV} (h : tfv sv = true) : sncZ z sv = .ok (alo z sv).1 (alo z sv).2 := if_pos h
@[simp] theorem z_snC' (f : Rho → Option SV) (z : Sto) (ρ : Rho) : snC f z ρ = (oz z (f (snR z ρ))).bind sncZ := by
  unfold snC
  cases f (snR z ρ) <;> rfl
def opK (z : Sto) (d : Dat) : EZ Dat := if tfl d = true then .ok z d else .bad
@[simp] theorem opK_bl (z : Sto) (b : Bool) : opK z (.bl b) = .ok z (.bl b) := id rfl
@[simp] theorem opK_int (z : Sto) (b : Int) : opK z (.int b) = .ok z (.int b) := id rfl
@[simp] theorem opD_is (g : Dat → Dat → Option Dat) (z : Sto) (x y : Dat) : opD g z x y = (oz z ((sn z x).bind fun x' => (sn z y).bind fun y' => g x' y')).bind opK := by
  unfold opD
  cases (sn z x).bind fun x' => (sn z y).bind fun y' => g x' y' <;> rfl
@[simp] theorem z_opZ (g : Dat → Dat → Option Dat) (fa fb : Sto → Rho → EZ Dat) (z : Sto) (ρ : Rho) : opZ g fa fb z ρ = (fa z ρ).bind fun z1 x => (fb z1 ρ).bind fun z2 y => opD g z2 x y := id rfl
def tzb (z : Sto) (d : Dat) : EZ Bool := match d with
  | .bl k => .ok z k
  | _ => .bad
@[simp] theorem tzb_bl (z : Sto) (k : Bool) : tzb z (.bl k) = .ok z k := id rfl
@[simp] theorem z_tsZ (f : Sto → Rho → EZ Dat) (z : Sto) (ρ : Rho) : tsZ f z ρ = (f z ρ).bind tzb := by
  unfold tsZ; congr 1
@[simp] theorem z_andZ (f g : Sto → Rho → EZ Bool) (z : Sto) (ρ : Rho) : andZ f g z ρ = (f z ρ).bind fun z1 k => if k = true then g z1 ρ else .ok z1 false := by
  unfold andZ; congr 1; funext z1 k; cases k <;> simp
@[simp] theorem z_orZ (f g : Sto → Rho → EZ Bool) (z : Sto) (ρ : Rho) : orZ f g z ρ = (f z ρ).bind fun z1 k => if k = true then .ok z1 true else g z1 ρ := by
  unfold orZ; congr 1; funext z1 k; cases k <;> simp
@[simp] theorem z_notZ (f : Sto → Rho → EZ Bool) (z : Sto) (ρ : Rho) : notZ f z ρ = (f z ρ).bind fun z1 k => .ok z1 (!k) := id rfl
/-! dict cells -/
theorem zip_al : ∀ al : List (Key × Dat), (al.map (·.1)).zip (al.map (·.2)) = al
  | [] => rfl
  | p :: al => by rw [List.map_cons, List.map_cons, List.zip_cons_cons, zip_al al]
def cdc : Option Cel → Option (List Key × List Dat)
  | some (.dct ks xs) => some (ks, xs)
  | _ => none
@[simp] theorem cdc_d (ks : List Key) (xs : List Dat) : cdc (some (.dct ks xs)) = some (ks, xs) := id rfl
@[simp] theorem cdc_A (al : List (Key × Dat)) : cdc (some (dctA al)) = some (al.map (·.1), al.map (·.2)) := id rfl
@[simp] theorem isDc_cel (z : Sto) (k : Nat) : isDc z (.cel k) = (cdc z[k]?).isSome := by
  unfold isDc cdc
  cases h : z[k]? with
  | none => simp only [h]; rfl
  | some c => cases c <;> simp only [h] <;> rfl
theorem sdfD_is {z : Sto} {k : Nat} {al : List (Key × Dat)} {n : Str} {d : Dat} (h : z[k]? = some (dctA al)) (hl : al.length < 16777216) : sdfD z (.cel k) (.str n) d = match getA al (.inr n) with
    | some d' => .ok z d'
    | none => .ok (z.set k (dctA (putA al (.inr n) d))) d := by
  unfold sdfD
  simp only [h, dctA, isK]
  rw [zip_al]
  exact if_pos (by rw [List.length_map, size_is]; exact hl)
@[simp] theorem z_sdfZ (fo fa fb : Sto → Rho → EZ Dat) (z : Sto) (ρ : Rho) : sdfZ fo fa fb z ρ = (fo z ρ).bind fun z1 o => if isDc z1 o = true then (fa z1 ρ).bind fun z2 kd => (fb z2 ρ).bind fun z3 d => sdfD z3 o kd d else .bad := id rfl
theorem clrDD_is {z : Sto} {k : Nat} {al : List (Key × Dat)} (h : z[k]? = some (dctA al)) : clrDD z (.cel k) [] = .ok (z.set k (.dct [] [])) .non := by
  unfold clrDD
  simp only [h, dctA]
def dpt (z : Sto) (o kd d : Dat) : EZ Dat := match o, isK kd with
  | .cel k, some j => match z[k]? with
    | some (.dct ks xs) => @ite _ (ks.length < sizeLine) (Classical.propDecidable _) (.ok (z.set k (dctA (putA (ks.zip xs) j d))) .non) .bad
    | _ => .bad
  | _, _ => .bad
@[simp] theorem z_dputZ (fa fo fk : Sto → Rho → EZ Dat) (z : Sto) (ρ : Rho) : dputZ fa fo fk z ρ = toRZ ((fa z ρ).bind fun z1 d => (fo z1 ρ).bind fun z2 o => (fk z2 ρ).bind fun z3 kd => dpt z3 o kd d) ρ fun z _ => .nx z ρ := id rfl
theorem dpt_is {z : Sto} {k : Nat} {al : List (Key × Dat)} {n : Str} {d : Dat} (h : z[k]? = some (dctA al)) (hl : al.length < 16777216) : dpt z (.cel k) (.str n) d = .ok (z.set k (dctA (putA al (.inr n) d))) .non := by
  unfold dpt
  simp only [h, dctA, isK]
  rw [zip_al]
  exact if_pos (by rw [List.length_map, size_is]; exact hl)
/-! settling -/
mutual
theorem stV_ncl (g : Sto → Nat → Option (Sto × Dat)) (z : Sto) : ∀ d : Dat, ncl d = true → stV g z d = some (z, d)
  | .non, _ => rfl | .bl _, _ => rfl | .int _, _ => rfl | .str _, _ => rfl
  | .tup xs, h => by rw [stV, stVs_ncl g z xs (by rw [ncl] at h; exact h)]; rfl
  | .lst xs, h => by rw [stV, stVs_ncl g z xs (by rw [ncl] at h; exact h)]; rfl
  | .dct ks xs, h => by rw [stV, stVs_ncl g z xs (by rw [ncl] at h; exact h)]; rfl
  | .obj c fs xs, h => by rw [stV, stVs_ncl g z xs (by rw [ncl] at h; exact h)]; rfl
  | .scr xs, h => by rw [stV, stVs_ncl g z xs (by rw [ncl] at h; exact h)]; rfl
  | .cel _, h => by rw [ncl] at h; cases h
theorem stVs_ncl (g : Sto → Nat → Option (Sto × Dat)) (z : Sto) : ∀ xs : List Dat, ncls xs = true → stVs g z xs = some (z, xs)
  | [], _ => rfl
  | x :: xs, h => by
    rw [ncls, Bool.and_eq_true] at h
    rw [stVs, stV_ncl g z x h.1, Option.bind_some, stVs_ncl g z xs h.2]
    rfl
end
theorem stl_lst {z : Sto} {k : Nat} {xs : List Dat} (h : z[k]? = some (.lst xs)) (hn : ncls xs = true) : stl z (.cel k) = some (z.set k .gone, .lst xs) := by
  show (z[k]?).bind (stK (stN 7) z k) = _
  rw [h]
  show (stVs (stN 7) z xs).bind (fun p => die p.1 k (.lst p.2)) = _
  rw [stVs_ncl _ _ _ hn]
  show die z k (.lst xs) = _
  unfold die
  simp only [h, isGone]
  rfl
theorem stl_dct {z : Sto} {k : Nat} {ks : List Key} {xs : List Dat} (h : z[k]? = some (.dct ks xs)) (hn : ncls xs = true) : stl z (.cel k) = some (z.set k .gone, .dct ks xs) := by
  show (z[k]?).bind (stK (stN 7) z k) = _
  rw [h]
  show (stVs (stN 7) z xs).bind (fun p => die p.1 k (.dct ks p.2)) = _
  rw [stVs_ncl _ _ _ hn]
  show die z k (.dct ks xs) = _
  unfold die
  simp only [h, isGone]
  rfl
def stz (z : Sto) (o : Option (Sto × Dat)) : EZ Dat := match o with
  | some (z', d') => .ok z' d'
  | none => .bad
@[simp] theorem stz_some (z z' : Sto) (d : Dat) : stz z (some (z', d)) = .ok z' d := id rfl
@[simp] theorem z_stlE (f : Sto → Rho → EZ Dat) (z : Sto) (ρ : Rho) : stlE f z ρ = (f z ρ).bind fun z1 d => stz z1 (stl z1 d) := id rfl
theorem stlTo_is {i : Nat} {b : Sto → Rho → RZ} {z z' : Sto} {ρ : Rho} {d d' : Dat} (h : rd i ρ = some d) (h2 : stl z d = some (z', d')) : stlTo i b z ρ = b z' (ρ.set i (some (.fro d'))) := by
  unfold stlTo
  rw [h, Option.bind_some, h2]
/-! dicts that are walked -/
@[simp] theorem noE_nx (ρ : Rho) : noE (.nx ρ) = .nx ρ := id rfl
@[simp] theorem noE_ret (sv : SV) : noE (.ret sv) = .ret sv := id rfl
def wd (L : List Key → List Dat → List Dat) : Dat → Option (List Dat)
  | .dct ks xs => some (L ks xs)
  | _ => none
@[simp] theorem wd_d (L : List Key → List Dat → List Dat) (ks : List Key) (xs : List Dat) : wd L (.dct ks xs) = some (L ks xs) := id rfl
@[simp] theorem m_forDS (L : List Key → List Dat → List Dat) (f : Rho → Option Dat) (h : Dat → Rho → Option Rho) (b : Rho → Res) (ρ : Rho) : forDS L f h b ρ = noE (nd ((f ρ).bind (wd L)) fun ds => forGo h b ds ρ) := by
  unfold forDS forS walkD
  cases hf : f ρ with
  | none => rfl
  | some d => cases d <;> rfl
@[simp] theorem items_nil (xs : List Dat) : itemsD [] xs = [] := by rw [itemsD]; intro k ks x xs h; cases h
@[simp] theorem inX_str (x : Str) (d : Dat) : inX (.str x) d = inD (.str x) d := id rfl
@[simp] theorem ninX_str (x : Str) (d : Dat) : ninX (.str x) d = ninD (.str x) d := id rfl
@[simp] theorem m_sortKeysE (f : Rho → Option Dat) (ρ : Rho) : sortKeysE f ρ = ((f ρ).bind srtKeysD).bind fun ys => some (.lst (txs ys)) := id rfl
theorem srtKeys_is {ks : List Str} {xs : List Dat} (h : ks.length < 64) : srtKeysD (.dct (ks.map Sum.inr) xs) = some (ks.mergeSort strLe) := by
  have e : keysT (ks.map Sum.inr) = some ks := by
    clear h
    induction ks with
    | nil => rfl
    | cons k ks ih =>
      rw [List.map_cons, keysT, ih]
      rfl
  unfold srtKeysD
  simp only [e, h, ↓reduceIte]
@[simp] theorem z_mkDZ (g : Addr → List Dat → Option SV) (cn : Str) (fs : Sto → Rho → EZ (List Dat)) (z : Sto) (ρ : Rho) : mkDZ g cn fs z ρ = (fs z ρ).bind fun z1 ds => oz z1 (mkS g cn ds) := by
  unfold mkDZ; simp
/-! a tuple of numbers among others -/
theorem canLay_nus : ∀ xs : List Int, PyData.canLayAll0 (pys (nus xs)) = true
  | [] => rfl
  | x :: xs => by show PyData.canLayAll0 (.int x :: pys (nus xs)) = true; rw [PyData.canLayAll0, canLay_nus xs]; rfl
theorem eqv_nus : ∀ xs ys : List Int, PyData.eqvAll (pys (nus xs)) (pys (nus ys)) = decide (xs = ys)
  | [], [] => rfl
  | [], _ :: _ => rfl
  | _ :: _, [] => rfl
  | x :: xs, y :: ys => by
    show PyData.eqvAll (.int x :: pys (nus xs)) (.int y :: pys (nus ys)) = _
    rw [PyData.eqvAll, eqv_nus xs ys, PyData.eqv]
    by_cases h : x = y
    · subst h; simp
    · simp [h]
theorem eqv_tup (xs ys : List Int) : PyData.eqv (py (.tup (nus xs))) (py (.tup (nus ys))) = decide (xs = ys) := by
  rw [py, py, PyData.eqv, eqv_nus]
def mksD (ms : List (List Int)) : List Dat := ms.map fun m => .tup (nus m)
theorem deep_mks (m : List Int) (ms : List (List Int)) : deepB (.tup (nus m)) (mksD ms) = some (decide (m ∈ ms)) := by
  have p1 : pl (.tup (nus m)) = true := by rw [pl]; exact pls_ints m
  have p2 : pls (mksD ms) = true := by
    rw [pls_all, List.all_eq_true]
    intro d hd
    obtain ⟨x, _, rfl⟩ := List.mem_map.mp hd
    rw [pl]
    exact pls_ints x
  have d1 : (py (.tup (nus m))).depth ≤ 3 := by
    rw [py, pys_ints, PyData.depth, PySem.W.depth_ints]
    omega
  have p3 : SeqAt.shaped (py (.tup (nus m))) = true := by
    unfold SeqAt.shaped
    rw [Bool.and_eq_true]
    refine ⟨?_, decide_eq_true (by omega)⟩
    rw [py, PyData.canLay0]
    exact canLay_nus m
  have p4 : SeqAt.shaped (.list (pys (mksD ms))) = true := by
    unfold SeqAt.shaped
    rw [Bool.and_eq_true]
    have h1 : PyData.canLayAll0 (pys (mksD ms)) = true := by
      clear p2
      induction ms with
      | nil => rfl
      | cons x ms ih =>
        show PyData.canLayAll0 (py (.tup (nus x)) :: pys (mksD ms)) = true
        rw [PyData.canLayAll0, ih, py, PyData.canLay0, canLay_nus]
        rfl
    have h2 : PyData.depthAll (pys (mksD ms)) ≤ 3 := by
      clear p2 h1
      induction ms with
      | nil => rw [show mksD [] = [] from rfl, pys, PyData.depthAll]; omega
      | cons x ms ih =>
        show PyData.depthAll (py (.tup (nus x)) :: pys (mksD ms)) ≤ 3
        have dx : (py (.tup (nus x))).depth ≤ 3 := by
          rw [py, pys_ints, PyData.depth, PySem.W.depth_ints]
          omega
        rw [PyData.depthAll]
        omega
    refine ⟨by rw [PyData.canLay0]; exact h1, decide_eq_true ?_⟩
    rw [PyData.depth]
    omega
  unfold deepB
  rw [if_pos ⟨p1, p2, p3, p4⟩]
  congr 1
  clear p2 p4
  induction ms with
  | nil => rfl
  | cons x ms ih =>
    show ((py (.tup (nus x)) :: pys (mksD ms)).any fun z => PyData.eqv z (py (.tup (nus m)))) = _
    rw [List.any_cons, ih, eqv_tup]
    by_cases h : x = m
    · subst h; simp
    · have h' : ¬ m = x := fun z => h z.symm
      simp [h, h']
@[simp] theorem in_mks (m : List Int) (ms : List (List Int)) : inX (.tup (nus m)) (.lst (mksD ms)) = some (.bl (decide (m ∈ ms))) := by
  show (deepB _ _).map Dat.bl = _
  rw [deep_mks]
  rfl
@[simp] theorem nin_mks (m : List Int) (ms : List (List Int)) : ninX (.tup (nus m)) (.lst (mksD ms)) = some (.bl (!decide (m ∈ ms))) := by
  show (deepB _ _).map (fun k => Dat.bl (!k)) = _
  rw [deep_mks]
  rfl
end
end Pq

namespace Pq
open PySem PySem.Spec PyProof.Rows L2
noncomputable section
/-! ### one's own place, told or looked at -/
def vr (o : Option (Option SV)) : Res := match o with
  | some (some sv) => .ret sv
  | _ => .bad
@[simp] theorem vr_some (sv : SV) : vr (some (some sv)) = .ret sv := id rfl
@[simp] theorem m_retV (i : Nat) (ρ : Rho) : retV i ρ = vr ρ[i]? := by
  unfold retV vr
  rfl
def lkN (sv : SV) : Option Dat := if dop sv = true then some (frz sv) else none
@[simp] theorem lkN_ok {sv : SV} (h : dop sv = true) : lkN sv = some (frz sv) := if_pos h
@[simp] theorem m_lookN (i : Nat) (f : Rho → Option SV) (ρ : Rho) : lookN i f ρ = (f (frzAt i ρ)).bind lkN := id rfl
/-! ### tables -/
instance (k : Key) (l : List Key) : Decidable (k ∈ l) := Classical.propDecidable _
abbrev Tb := List (Key × Dat)
def dD (al : Tb) : Dat := .dct (al.map (·.1)) (al.map (·.2))
def oD (al : Tb) : SV := .od (al.map (·.1)) ((al.map (·.2)).map SV.fro)
@[simp] theorem frz_oD (al : Tb) : frz (oD al) = dD al := by
  unfold oD dD
  rw [frz, frzs_fro]
theorem look_A : ∀ (al : Tb) (k : Key), look (al.map (·.1)) (al.map (·.2)) k = getA al k
  | [], k => rfl
  | p :: al, k => by
    rw [List.map_cons, List.map_cons, look]
    unfold getA
    rw [List.find?_cons]
    by_cases h : p.1 = k
    · rw [if_pos h, decide_eq_true h]
      rfl
    · rw [if_neg h, decide_eq_false h]
      exact look_A al k
@[simp] theorem getA_nil (k : Key) : getA [] k = none := id rfl
theorem getA_cons (p : Key × Dat) (al : Tb) (k : Key) : getA (p :: al) k = if p.1 = k then some p.2 else getA al k := by
  unfold getA
  rw [List.find?_cons]
  by_cases h : p.1 = k
  · rw [if_pos h, decide_eq_true h]
    rfl
  · rw [if_neg h, decide_eq_false h]
theorem getA_some {al : Tb} {k : Key} : k ∈ al.map (·.1) ↔ (getA al k).isSome = true := by
  induction al with
  | nil => simp
  | cons p al ih =>
    rw [getA_cons, List.map_cons, List.mem_cons]
    by_cases h : p.1 = k
    · simp [h]
    · rw [if_neg h]
      constructor
      · rintro (e | e)
        · exact absurd e.symm h
        · exact ih.mp e
      · exact fun e => .inr (ih.mpr e)
theorem any_mem (al : Tb) (k : Key) : (al.any fun p => decide (p.1 = k)) = decide (k ∈ al.map (·.1)) := by
  induction al with
  | nil => simp
  | cons p al ih =>
    rw [List.any_cons, ih, List.map_cons]
    by_cases h : p.1 = k
    · simp [h]
    · have h' : ¬ k = p.1 := fun z => h z.symm
      simp [h, h']
theorem putA_is (al : Tb) (k : Key) (d : Dat) : putA al k d = if k ∈ al.map (·.1) then al.map (fun p => if p.1 = k then (p.1, d) else p) else al ++ [(k, d)] := by
  unfold putA
  rw [any_mem]
  by_cases h : k ∈ al.map (·.1)
  · rw [if_pos h, if_pos (decide_eq_true h)]
  · rw [if_neg h, if_neg (by rw [decide_eq_false h]; decide)]
theorem getA_map (al : Tb) (k j : Key) (d : Dat) : getA (al.map fun p => if p.1 = k then (p.1, d) else p) j = if j = k ∧ k ∈ al.map (·.1) then some d else getA al j := by
  induction al with
  | nil => simp
  | cons p al ih =>
    rw [List.map_cons, getA_cons, getA_cons, ih, List.map_cons]
    by_cases h : p.1 = k
    · subst h
      by_cases hj : p.1 = j
      · subst hj; simp
      · have hj' : ¬ j = p.1 := fun z => hj z.symm
        simp [hj, hj']
    · have h' : ¬ k = p.1 := fun z => h z.symm
      by_cases hj : j = k
      · subst hj
        simp only [if_neg h, true_and, List.mem_cons, h', false_or]
      · simp [h, hj]
theorem getA_put (al : Tb) (k j : Key) (d : Dat) : getA (putA al k d) j = if j = k then some d else getA al j := by
  rw [putA_is]
  by_cases h : k ∈ al.map (·.1)
  · rw [if_pos h, getA_map]
    simp [h]
  · rw [if_neg h]
    unfold getA
    rw [List.find?_append]
    by_cases hj : j = k
    · subst hj
      have e : al.find? (fun p => decide (p.1 = j)) = none := by
        cases q : al.find? (fun p => decide (p.1 = j)) with
        | none => rfl
        | some p =>
          exact absurd (getA_some.mpr (by unfold getA; rw [q]; rfl)) h
      rw [e, if_pos rfl]
      simp
    · rw [if_neg hj]
      have e : [(k, d)].find? (fun p => decide (p.1 = j)) = none := by
        rw [List.find?_cons, decide_eq_false (fun z : k = j => hj z.symm)]
        rfl
      rw [e]
      cases al.find? (fun p => decide (p.1 = j)) <;> rfl
theorem keys_map (al : Tb) (k : Key) (d : Dat) : (al.map fun p => if p.1 = k then (p.1, d) else p).map (·.1) = al.map (·.1) := by
  rw [List.map_map]
  apply List.map_congr_left
  intro p _
  by_cases h : p.1 = k <;> simp [h]
theorem keys_put (al : Tb) (k : Key) (d : Dat) : (putA al k d).map (·.1) = if k ∈ al.map (·.1) then al.map (·.1) else al.map (·.1) ++ [k] := by
  rw [putA_is]
  by_cases h : k ∈ al.map (·.1)
  · rw [if_pos h, if_pos h, keys_map]
  · rw [if_neg h, if_neg h, List.map_append]
    rfl
theorem nd_put {al : Tb} (k : Key) (d : Dat) (h : (al.map (·.1)).Nodup) : ((putA al k d).map (·.1)).Nodup := by
  rw [keys_put]
  split
  · exact h
  · rename_i n
    rw [List.nodup_append]
    exact ⟨h, by simp, fun a ha b hb e => n (by rw [List.mem_singleton.mp hb] at e; exact e ▸ ha)⟩
theorem len_put (al : Tb) (k : Key) (d : Dat) : (putA al k d).length ≤ al.length + 1 := by
  have := congrArg List.length (keys_put al k d)
  rw [List.length_map] at this
  split at this
  · rw [List.length_map] at this; omega
  · rw [List.length_append, List.length_map] at this; simp at this; omega
theorem mem_put {al : Tb} {k : Key} {d : Dat} {p : Key × Dat} (h : p ∈ putA al k d) : p = (k, d) ∨ p ∈ al := by
  rw [putA_is] at h
  split at h
  · obtain ⟨q, hq, e⟩ := List.mem_map.mp h
    split at e
    · rename_i e2
      exact .inl (by rw [← e, e2])
    · exact .inr (e ▸ hq)
  · rcases List.mem_append.mp h with h | h
    · exact .inr h
    · exact .inl (List.mem_singleton.mp h)
theorem mem_keyA {al : Tb} {k : Key} {d : Dat} (h : getA al k = some d) : (k, d) ∈ al := by
  unfold getA at h
  obtain ⟨p, hp, e⟩ := Option.map_eq_some_iff.mp h
  have h1 := List.find?_some hp
  have h2 := List.mem_of_find?_eq_some hp
  have h3 : p.1 = k := of_decide_eq_true h1
  rw [← h3, ← e]
  exact h2
theorem get_mem {al : Tb} (nd : (al.map (·.1)).Nodup) {p : Key × Dat} (h : p ∈ al) : getA al p.1 = some p.2 := by
  induction al with
  | nil => simp at h
  | cons q al ih =>
    rw [List.map_cons, List.nodup_cons] at nd
    rw [getA_cons]
    rcases List.mem_cons.mp h with rfl | h
    · rw [if_pos rfl]
    · rw [if_neg fun z => nd.1 (by rw [z]; exact List.mem_map_of_mem h), ih nd.2 h]
/-! an own table is set -/
theorem fro_A (xs : List Dat) : ∀ (ks : List Key) (k : Key), froAt ks (xs.map SV.fro) k = true := by
  induction xs with
  | nil => intro ks k; cases ks <;> rfl
  | cons x xs ih =>
    intro ks k
    cases ks with
    | nil => rfl
    | cons j ks =>
      show ((if j = k then true else true) && froAt ks (xs.map SV.fro) k) = true
      rw [ih ks k]
      split <;> rfl
theorem putV_A : ∀ (al : Tb) (k : Key) (d : Dat), putV (al.map (·.1)) ((al.map (·.2)).map SV.fro) k (.fro d) = ((al.map fun p => if p.1 = k then (p.1, d) else p).map (·.2)).map SV.fro
  | [], _, _ => rfl
  | p :: al, k, d => by
    show (if p.1 = k then SV.fro d :: putV (al.map (·.1)) ((al.map (·.2)).map SV.fro) k (.fro d) else SV.fro p.2 :: putV (al.map (·.1)) ((al.map (·.2)).map SV.fro) k (.fro d)) = _
    rw [putV_A al k d]
    by_cases h : p.1 = k
    · rw [if_pos h, List.map_cons, if_pos h]; rfl
    · rw [if_neg h, List.map_cons, if_neg h]; rfl
theorem putKD_A (al : Tb) (k : Key) (d : Dat) : putKD (al.map (·.1)) ((al.map (·.2)).map SV.fro) k (.fro d) = ((putA al k d).map (·.1), ((putA al k d).map (·.2)).map SV.fro) := by
  have e : ((al.map (·.1)).any fun j => decide (j = k)) = decide (k ∈ al.map (·.1)) := by
    rw [List.any_map, ← any_mem]
    rfl
  unfold putKD
  rw [e, putA_is]
  by_cases h : k ∈ al.map (·.1)
  · rw [if_pos (decide_eq_true h), if_pos h, putV_A, keys_map]
  · rw [if_neg (by rw [decide_eq_false h]; decide), if_neg h]
    rw [List.map_append, List.map_append, List.map_append]
    rfl
theorem setDl_A {fk f : Rho → Option Dat} {i : Nat} {ρ : Rho} {al : Tb} {n : Str} {d : Dat} (hk : fk ρ = some (.str n)) (hf : f ρ = some d) (hi : ρ[i]? = some (some (oD al))) (hl : al.length < 1000) : setDl i [] fk f ρ = .nx (ρ.set i (some (oD (putA al (.inr n) d)))) := by
  unfold setDl
  rw [hf, hk]
  simp only [isK, hi, getP, oD, putKD_A, putP]
  rw [ifp ⟨by rw [List.length_map, size_is]; omega, fro_A _ _ _⟩]
@[simp] theorem sub_dD (al : Tb) (n : Str) : subD' (dD al) (.str n) = getA al (.inr n) := look_A al (.inr n)
@[simp] theorem get1_dD (al : Tb) (n : Str) : get1D (dD al) (.str n) = some ((getA al (.inr n)).getD .non) := by
  rw [← look_A]
  rfl
theorem items_A (al : Tb) : itemsD (al.map (·.1)) (al.map (·.2)) = al.map fun p => .tup [kyD p.1, p.2] := by
  induction al with
  | nil => rfl
  | cons p al ih =>
    rw [List.map_cons, List.map_cons, itemsD, ih]
    rfl
/-- many are put -/
def putAll (al : Tb) (fs : Tb) : Tb := fs.foldl (fun al f => putA al f.1 f.2) al
@[simp] theorem putAll_nil (al : Tb) : putAll al [] = al := id rfl
@[simp] theorem putAll_cons (al : Tb) (f : Key × Dat) (fs : Tb) : putAll al (f :: fs) = putAll (putA al f.1 f.2) fs := id rfl
theorem putAll_app (al : Tb) (fs gs : Tb) : putAll al (fs ++ gs) = putAll (putAll al fs) gs := by unfold putAll; rw [List.foldl_append]
theorem putAll_len : ∀ (fs al : Tb), (putAll al fs).length ≤ al.length + fs.length
  | [], al => Nat.le_refl _
  | f :: fs, al => by
    rw [putAll_cons, List.length_cons]
    have := putAll_len fs (putA al f.1 f.2)
    have := len_put al f.1 f.2
    omega
theorem putAll_nd : ∀ (fs : Tb) {al : Tb}, (al.map (·.1)).Nodup → ((putAll al fs).map (·.1)).Nodup
  | [], _, h => h
  | f :: fs, _, h => putAll_nd fs (nd_put f.1 f.2 h)
/-- each key has one value -/
def Fnl (fs : Tb) : Prop := ∀ f ∈ fs, ∀ g ∈ fs, f.1 = g.1 → f.2 = g.2
theorem putAll_get : ∀ (fs : Tb) {al : Tb}, Fnl fs → ∀ k, getA (putAll al fs) k = if k ∈ fs.map (·.1) then getA fs k else getA al k
  | [], _, _, k => by simp
  | f :: fs, al, h, k => by
    rw [putAll_cons, putAll_get fs (fun a ha b hb => h a (List.mem_cons_of_mem _ ha) b (List.mem_cons_of_mem _ hb)), getA_put, getA_cons, List.map_cons]
    by_cases h1 : k ∈ fs.map (·.1)
    · rw [if_pos h1, if_pos (List.mem_cons_of_mem _ h1)]
      by_cases h2 : f.1 = k
      · rw [if_pos h2]
        obtain ⟨d, hd⟩ := Option.isSome_iff_exists.mp (getA_some.mp h1)
        rw [hd]
        have := h f List.mem_cons_self (k, d) (List.mem_cons_of_mem _ (mem_keyA hd)) h2
        rw [this]
      · rw [if_neg h2]
    · rw [if_neg h1]
      by_cases h2 : f.1 = k
      · rw [if_pos h2.symm, if_pos (by rw [h2]; exact List.mem_cons_self), if_pos h2]
      · rw [if_neg (fun z => h2 z.symm), if_neg fun z => (List.mem_cons.mp z).elim (fun e => h2 e.symm) h1]
theorem putAll_iff {fs : Tb} (h : Fnl fs) (k : Key) (d : Dat) : getA (putAll [] fs) k = some d ↔ (k, d) ∈ fs := by
  rw [putAll_get fs h, getA_nil]
  constructor
  · intro e
    split at e
    · exact mem_keyA e
    · cases e
  · intro e
    have hk : k ∈ fs.map (·.1) := List.mem_map.mpr ⟨_, e, rfl⟩
    rw [if_pos hk]
    obtain ⟨d', hd⟩ := Option.isSome_iff_exists.mp (getA_some.mp hk)
    rw [hd]
    have := h (k, d) e (k, d') (mem_keyA hd) rfl
    rw [show d = d' from this]
theorem get_ext {al be : Tb} (h : ∀ k d, getA al k = some d ↔ getA be k = some d) (k : Key) : getA al k = getA be k := Option.ext fun d => h k d
/-! keys that are texts -/
def SK (al : Tb) : Prop := ∀ p ∈ al, ∃ s : Str, p.1 = .inr s
def nmk (al : Tb) : List Str := al.map fun p => match p.1 with
  | .inr s => s
  | .inl _ => ""
theorem keys_SK {al : Tb} (h : SK al) : al.map (·.1) = (nmk al).map Sum.inr := by
  unfold nmk
  rw [List.map_map]
  apply List.map_congr_left
  intro p hp
  obtain ⟨s, e⟩ := h p hp
  rw [e]
  show _ = Sum.inr (match p.1 with | .inr s => s | .inl _ => "")
  rw [e]
theorem SK_put {al : Tb} {n : Str} {d : Dat} (h : SK al) : SK (putA al (.inr n) d) := fun p hp => by
  rcases mem_put hp with rfl | hp
  · exact ⟨n, rfl⟩
  · exact h p hp
theorem SK_all : ∀ {fs al : Tb}, SK al → SK fs → SK (putAll al fs)
  | [], _, h, _ => h
  | f :: fs, al, h, hf => by
    obtain ⟨s, e⟩ := hf f List.mem_cons_self
    rw [putAll_cons, e]
    exact SK_all (SK_put h) fun p hp => hf p (List.mem_cons_of_mem _ hp)
theorem nmk_nd {al : Tb} (h : SK al) (nd : (al.map (·.1)).Nodup) : (nmk al).Nodup := by
  rw [keys_SK h] at nd
  exact (List.pairwise_map.mp nd).imp fun h e => h (by rw [e])
theorem nmk_mem {al : Tb} (h : SK al) (s : Str) : s ∈ nmk al ↔ (getA al (.inr s)).isSome = true := by
  rw [← getA_some, keys_SK h, List.mem_map]
  constructor
  · exact fun e => ⟨s, e, rfl⟩
  · rintro ⟨t, ht, e⟩
    rw [← Sum.inr.inj e]
    exact ht
theorem srt_A {al : Tb} (h : SK al) (hl : al.length < 64) : srtKeysD (dD al) = some ((nmk al).mergeSort strLe) := by
  unfold dD
  rw [keys_SK h]
  exact srtKeys_is (by unfold nmk; rw [List.length_map]; exact hl)
theorem srt_perm {xs ys : List Str} (h : xs.Perm ys) : xs.mergeSort strLe = ys.mergeSort strLe := by
  have p : (xs.mergeSort strLe).Perm (ys.mergeSort strLe) := (List.mergeSort_perm xs _).trans (h.trans (List.mergeSort_perm ys _).symm)
  have s1 := List.pairwise_mergeSort (le := strLe) (fun a b c => strLe_tr) strLe_tot xs
  have s2 := List.pairwise_mergeSort (le := strLe) (fun a b c => strLe_tr) strLe_tot ys
  exact p.eq_of_pairwise (le := fun a b => strLe a b = true) (fun a b _ _ h1 h2 => strLe_anti h1 h2) s1 s2
theorem srt_same {al be : Tb} (h1 : SK al) (h2 : SK be) (n1 : (al.map (·.1)).Nodup) (n2 : (be.map (·.1)).Nodup) (h : ∀ k, getA al k = getA be k) : (nmk al).mergeSort strLe = (nmk be).mergeSort strLe := by
  apply srt_perm
  rw [List.perm_ext_iff_of_nodup (nmk_nd h1 n1) (nmk_nd h2 n2)]
  intro s
  rw [nmk_mem h1, nmk_mem h2, h]
end
end Pq

namespace Pq
open PySem PySem.Spec PyProof.Rows L2
noncomputable section
/-! ### tables of one's own whose values are one's own -/
def ownL : Dat → SV
  | .lst xs => .ol (xs.map SV.fro)
  | d => .fro d
def ownV : Dat → SV
  | .lst xs => .ol (xs.map SV.fro)
  | .tup xs => .tp (xs.map ownL)
  | d => .fro d
theorem frz_ownL (d : Dat) : frz (ownL d) = d := by
  cases d <;> first | rfl | (show frz (.ol _) = _; rw [frz, frzs_fro])
theorem frzs_ownL : ∀ xs : List Dat, frzs (xs.map ownL) = xs
  | [] => by rw [List.map_nil, frzs]
  | x :: xs => by rw [List.map_cons, frzs, frzs_ownL xs, frz_ownL]
@[simp] theorem frz_ownV (d : Dat) : frz (ownV d) = d := by
  cases d <;> first | rfl | (show frz (.ol _) = _; rw [frz, frzs_fro]) | (show frz (.tp _) = _; rw [frz, frzs_ownL])
theorem frzs_ownV : ∀ xs : List Dat, frzs (xs.map ownV) = xs
  | [] => by rw [List.map_nil, frzs]
  | x :: xs => by rw [List.map_cons, frzs, frzs_ownV xs, frz_ownV]
def oW (al : Tb) : SV := .od (al.map (·.1)) ((al.map (·.2)).map ownV)
@[simp] theorem frz_oW (al : Tb) : frz (oW al) = dD al := by
  unfold oW dD
  rw [frz, frzs_ownV]
theorem putV_W : ∀ (al : Tb) (k : Key) (d : Dat), putV (al.map (·.1)) ((al.map (·.2)).map ownV) k (ownV d) = ((al.map fun p => if p.1 = k then (p.1, d) else p).map (·.2)).map ownV
  | [], _, _ => rfl
  | p :: al, k, d => by
    show (if p.1 = k then ownV d :: putV (al.map (·.1)) ((al.map (·.2)).map ownV) k (ownV d) else ownV p.2 :: putV (al.map (·.1)) ((al.map (·.2)).map ownV) k (ownV d)) = _
    rw [putV_W al k d]
    by_cases h : p.1 = k
    · rw [if_pos h, List.map_cons, if_pos h]; rfl
    · rw [if_neg h, List.map_cons, if_neg h]; rfl
theorem putKD_W (al : Tb) (k : Key) (d : Dat) : putKD (al.map (·.1)) ((al.map (·.2)).map ownV) k (ownV d) = ((putA al k d).map (·.1), ((putA al k d).map (·.2)).map ownV) := by
  have e : ((al.map (·.1)).any fun j => decide (j = k)) = decide (k ∈ al.map (·.1)) := by
    rw [List.any_map, ← any_mem]
    rfl
  unfold putKD
  rw [e, putA_is]
  by_cases h : k ∈ al.map (·.1)
  · rw [if_pos (decide_eq_true h), if_pos h, putV_W, keys_map]
  · rw [if_neg (by rw [decide_eq_false h]; decide), if_neg h]
    rw [List.map_append, List.map_append, List.map_append]
    rfl
theorem setDP_W {fk : Rho → Option Dat} {o : Rho → Option SV} {i : Nat} {ρ : Rho} {al : Tb} {n : Str} {d : Dat} (hk : fk ρ = some (.str n)) (ho : o ρ = some (ownV d)) (hi : ρ[i]? = some (some (oW al))) (hl : al.length < 1000) (nd : (al.map (·.1)).Nodup) : setDP i [] fk o ρ = .nx (ρ.set i (some (oW (putA al (.inr n) d)))) := by
  unfold setDP
  rw [ho, hk]
  simp only [Option.bind_some, isK, hi, getP, oW, putKD_W, putP]
  rw [ifp ⟨by rw [List.length_map, size_is]; omega, nd⟩]
/-! a dict's keys, as a list -/
@[simp] theorem m_listKD (ks : List Key) (xs : List Dat) : listKD [.dct ks xs] = some (.lst (ks.map kyD)) := id rfl
@[simp] theorem m_listKO (ks : List Key) (xs : List Dat) : listKO [.dct ks xs] = some (.ol ((ks.map kyD).map SV.fro)) := id rfl
end
end Pq

namespace Pq
open PySem PySem.Spec PyProof.Rows L2
noncomputable section
/-! ### a dict of lists, as cells -/
def celT : Nat → Tb → Tb
  | _, [] => []
  | b, p :: T => (p.1, .cel b) :: celT (b + 1) T
def lsD : Dat → List Dat
  | .lst xs => xs
  | _ => []
def Lsts (T : Tb) : Prop := ∀ p ∈ T, ∃ xs, p.2 = .lst xs ∧ ncls xs = true
theorem celT_keys : ∀ (T : Tb) (b : Nat), (celT b T).map (·.1) = T.map (·.1)
  | [], _ => rfl
  | p :: T, b => by rw [celT, List.map_cons, List.map_cons, celT_keys T]
theorem celT_len : ∀ (T : Tb) (b : Nat), (celT b T).length = T.length
  | [], _ => rfl
  | p :: T, b => by rw [celT, List.length_cons, List.length_cons, celT_len T]
theorem celT_get : ∀ (T : Tb) (b : Nat) (k : Key), k ∈ T.map (·.1) → ∃ j, b ≤ j ∧ j < b + T.length ∧ getA (celT b T) k = some (.cel j)
  | [], _, _, h => by simp at h
  | p :: T, b, k, h => by
    rw [celT, getA_cons]
    by_cases hk : p.1 = k
    · rw [if_pos hk]
      exact ⟨b, Nat.le_refl _, by rw [List.length_cons]; omega, rfl⟩
    · rw [if_neg hk]
      rw [List.map_cons] at h
      obtain ⟨j, h1, h2, h3⟩ := celT_get T (b + 1) k ((List.mem_cons.mp h).resolve_left fun z => hk z.symm)
      exact ⟨j, by omega, by rw [List.length_cons]; omega, h3⟩
theorem alos_W : ∀ (T : Tb) (z : Sto), Lsts T → alos z ((T.map (·.2)).map ownV) = (z ++ T.map fun p => Cel.lst (lsD p.2), (celT z.length T).map (·.2))
  | [], z, _ => by simp [celT]
  | p :: T, z, h => by
    obtain ⟨xs, e, _⟩ := h p List.mem_cons_self
    have ih := alos_W T (z ++ [Cel.lst xs]) fun q hq => h q (List.mem_cons_of_mem _ hq)
    rw [List.map_cons, List.map_cons, alos_cons, e]
    have e1 : alo z (ownV (.lst xs)) = (z ++ [.lst xs], .cel z.length) := by
      show alo z (.ol (xs.map SV.fro)) = _
      rw [alo_ol, alos_fro]
    rw [e1, ih, celT, List.map_cons, List.map_cons, e, List.length_append, List.append_assoc]
    rfl
theorem alo_W (T : Tb) (z : Sto) (h : Lsts T) : alo z (oW T) = (z ++ (T.map fun p => Cel.lst (lsD p.2)) ++ [dctA (celT z.length T)], .cel (z.length + T.length)) := by
  unfold oW
  rw [alo_od, alos_W T z h]
  unfold dctA
  rw [celT_keys, List.length_append, List.length_map]
theorem sn_celT (z : Sto) (n : Nat) : ∀ (T : Tb) (b : Nat), Lsts T → (∀ i p, T[i]? = some p → z[b + i]? = some (.lst (lsD p.2))) → snDs (snN (n + 1) z) ((celT b T).map (·.2)) = some (T.map (·.2))
  | [], _, _, _ => rfl
  | p :: T, b, h, hz => by
    obtain ⟨xs, e, nx⟩ := h p List.mem_cons_self
    have h0 := hz 0 p rfl
    rw [e, Nat.add_zero] at h0
    have ih := sn_celT z n T (b + 1) (fun q hq => h q (List.mem_cons_of_mem _ hq)) fun i q hi => by
      have := hz (i + 1) q hi
      rw [← this]
      congr 1
      omega
    have e1 : snD (snN (n + 1) z) (.cel b) = some (.lst xs) := by
      show (z[b]?).bind (snK (snN n z)) = _
      rw [h0]
      show (snDs _ xs).map Dat.lst = _
      rw [snDs_ncl _ _ nx]
      rfl
    rw [celT, List.map_cons, List.map_cons, snDs, e1, Option.bind_some, ih, Option.bind_some, e]
theorem snK_celT {z : Sto} {n b : Nat} {T : Tb} (h : Lsts T) (hz : ∀ i p, T[i]? = some p → z[b + i]? = some (.lst (lsD p.2))) : snK (snN (n + 1) z) (dctA (celT b T)) = some (dD T) := by
  show (snDs _ ((celT b T).map (·.2))).map (Dat.dct ((celT b T).map (·.1))) = _
  rw [sn_celT z n T b h hz, celT_keys]
  rfl
theorem subC_A (k : Str) (al : Tb) : subC (.str k) (dctA al) = getA al (.inr k) := by
  show getA ((al.map (·.1)).zip (al.map (·.2))) (.inr k) = _
  rw [zip_al]
def liE (z : Sto) (d : Dat) : EZ (List Dat) := match d with
  | .lst xs => .ok z xs
  | .scr xs => .ok z xs
  | _ => .bad
@[simp] theorem liE_l (z : Sto) (xs : List Dat) : liE z (.lst xs) = .ok z xs := id rfl
@[simp] theorem z_lstI (f : Sto → Rho → EZ Dat) (z : Sto) (ρ : Rho) : lstI f z ρ = (f z ρ).bind liE := by
  unfold lstI liE
  rfl
end
end Pq

namespace Pq
open PySem PySem.Spec PyProof.Rows L2
noncomputable section
/-! ### walks over a settled dict, names told apart -/
@[simp] theorem noXZ_nx (z : Sto) (ρ : Rho) : noXZ (.nx z ρ) = .nx z ρ := id rfl
@[simp] theorem noXZ_ret (z : Sto) (d : Dat) : noXZ (.ret z d) = .ret z d := id rfl
def wdz (ds : Option (List Dat)) (k : List Dat → RZ) : RZ := match ds with
  | some ds => k ds
  | none => .bad
@[simp] theorem wdz_some (ds : List Dat) (k : List Dat → RZ) : wdz (some ds) k = k ds := id rfl
@[simp] theorem z_forDZ (L : List Key → List Dat → List Dat) (f : Rho → Option Dat) (h : Dat → Rho → Option Rho) (b : Sto → Rho → RZ) (z : Sto) (ρ : Rho) : forDZ L f h b z ρ = wdz ((f ρ).bind (wd L)) fun ds => noXZ (forGoZ h b ds z ρ) := by
  unfold forDZ wdz
  cases f ρ with
  | none => rfl
  | some d => cases d <;> rfl
def oNx (z : Sto) (o : Option Rho) : RZ := match o with
  | some ρ' => .nx z ρ'
  | none => .bad
@[simp] theorem oNx_some (z : Sto) (ρ : Rho) : oNx z (some ρ) = .nx z ρ := id rfl
@[simp] theorem z_asgTZ (h : Dat → Rho → Option Rho) (f : Sto → Rho → EZ Dat) (z : Sto) (ρ : Rho) : asgTZ h f z ρ = toRZ (f z ρ) ρ fun z d => oNx z (h d ρ) := by
  unfold asgTZ oNx
  congr 1
theorem snp_is {g : List Dat → Option Out} {z : Sto} {ds ds' : List Dat} {sv : SV} (h : sns z ds = some ds') (hg : g ds' = some (.ok sv)) (t : tfv sv = true) : snpZ g z ds = some (.ok z (frz sv)) := by
  unfold snpZ
  rw [h, Option.bind_some, hg]
  exact if_pos t
theorem sns_cons {z : Sto} {d d' : Dat} {ds ds' : List Dat} (h : sn z d = some d') (h2 : sns z ds = some ds') : sns z (d :: ds) = some (d' :: ds') := by
  show (snD (snN 8 z) d).bind _ = _
  rw [show snD (snN 8 z) d = some d' from h, Option.bind_some]
  rw [show snDs (snN 8 z) ds = some ds' from h2]
  rfl
theorem sns_nil {z : Sto} : sns z [] = some [] := rfl
/-- a cell's table of settled data, as it stands -/
theorem snK_A {g : Nat → Option Dat} {al : Tb} (h : ncls (al.map (·.2)) = true) : snK g (dctA al) = some (dD al) := by
  show (snDs _ (al.map (·.2))).map (Dat.dct (al.map (·.1))) = _
  rw [snDs_ncl _ _ h]
  rfl
theorem sn_A {z : Sto} {k : Nat} {al : Tb} (hz : z[k]? = some (dctA al)) (h : ncls (al.map (·.2)) = true) : sn z (.cel k) = some (dD al) := by
  show (z[k]?).bind (snK (snN 7 z)) = _
  rw [hz]
  exact snK_A h
end
end Pq

namespace Pq
open PySem PySem.Spec PyProof.Rows L2
noncomputable section
/-! ### texts by sign, split, numbers read -/
def sg (c : Nat) : Dat := .str ⟨#[c]⟩
def sgs : Dat → Option (List Dat)
  | .str x => some ((TL.tl x).map sg)
  | _ => none
@[simp] theorem sgs_str (x : Str) : sgs (.str x) = some ((TL.tl x).map sg) := id rfl
@[simp] theorem m_chS (f : Rho → Option Dat) (ρ : Rho) : chS f ρ = (f ρ).bind sgs := by
  unfold chS
  congr 1
@[simp] theorem nin_sg (c : Nat) (z : Str) : ninX (sg c) (.str z) = some (.bl (!decide (c ∈ TL.tl z))) := by
  show some (Dat.bl (! !(Builtin.Str.occurrences z ⟨#[c]⟩ 0 z.length 1).isEmpty)) = _
  rw [StrLaws.found_one z c]
@[simp] theorem in_sg (c : Nat) (z : Str) : inX (sg c) (.str z) = some (.bl (decide (c ∈ TL.tl z))) := by
  show some (Dat.bl (!(Builtin.Str.occurrences z ⟨#[c]⟩ 0 z.length 1).isEmpty)) = _
  rw [StrLaws.found_one z c]
@[simp] theorem split_str {x y : Str} (h : (y.length == 0) = false ∧ x.length + 2 ≤ 16777216) : splitD (.str x) (.str y) = some (.lst (txs (Txt.split x y))) := ifp h
@[simp] theorem intT_str {x : Str} (h : x.length ≤ 640) : intT [.str x] = (intText? x).map Dat.int := ifp h
def kdL (l : List (Str × Int)) : Dat → Option Dat
  | .str z => (l.lookup z).map Dat.int
  | _ => none
@[simp] theorem kdL_str (l : List (Str × Int)) (z : Str) : kdL l (.str z) = (l.lookup z).map Dat.int := id rfl
@[simp] theorem m_kdS (l : List (Str × Int)) (f : Rho → Option Dat) (ρ : Rho) : kdS l f ρ = (f ρ).bind (kdL l) := by
  unfold kdS
  congr 1
theorem all_fro : ∀ ys : List Dat, (ys.map SV.fro).all isFro = true
  | [] => rfl
  | y :: ys => by rw [List.map_cons, List.all_cons, all_fro ys]; rfl
theorem extS_is {i : Nat} {o : Rho → Option SV} {ρ : Rho} {xs : List SV} {ys : List Dat} (ho : o ρ = some (.ol (ys.map SV.fro))) (hi : ρ[i]? = some (some (.ol xs))) (hl : xs.length + ys.length ≤ 16777216) : extS i o ρ = .nx (ρ.set i (some (.ol (xs ++ ys.map SV.fro)))) := by
  unfold extS
  rw [ho]
  simp only [hi]
  rw [ifp ⟨by rw [List.length_map, size_is]; exact hl, all_fro ys⟩]
def ext2 (sv : SV) (o : Option (Option SV)) (k : SV → Res) : Res := match sv, o with
  | .ol ys, some (some (.ol xs)) => @ite _ (xs.length + ys.length ≤ sizeLine ∧ ys.all isFro = true) (Classical.propDecidable _) (k (.ol (xs ++ ys))) .bad
  | _, _ => .bad
@[simp] theorem m_extS (i : Nat) (o : Rho → Option SV) (ρ : Rho) : extS i o ρ = nd (o ρ) fun sv => ext2 sv ρ[i]? fun sv => .nx (ρ.set i (some sv)) := by
  unfold extS nd ext2
  cases o ρ with
  | none => rfl
  | some sv =>
    cases sv <;> try rfl
    rename_i ys
    cases ρ[i]? with
    | none => rfl
    | some q =>
      cases q with
      | none => rfl
      | some sv' => cases sv' <;> rfl
theorem ext2_is {xs : List SV} {ys : List Dat} {k : SV → Res} (h : xs.length + ys.length ≤ 16777216) : ext2 (.ol (ys.map SV.fro)) (some (some (.ol xs))) k = k (.ol (xs ++ ys.map SV.fro)) := ifp ⟨by rw [List.length_map, size_is]; exact h, all_fro ys⟩
@[simp] theorem m_sortItE (f : Rho → Option Dat) (ρ : Rho) : sortItE f ρ = (f ρ).bind sortItD := id rfl
/-! what is sorted: pairs whose first places are unlike texts -/
def tabT {α : Type} (k : α → Str) (v : α → Dat) (C : List α) : Tb := C.map fun a => (.inr (k a), v a)
theorem tab_keys {α : Type} (k : α → Str) (v : α → Dat) (C : List α) : (tabT k v C).map (·.1) = (C.map k).map Sum.inr := by
  unfold tabT
  rw [List.map_map, List.map_map]
  rfl
theorem tab_vals {α : Type} (k : α → Str) (v : α → Dat) (C : List α) : (tabT k v C).map (·.2) = C.map v := by
  unfold tabT
  rw [List.map_map]
  rfl
theorem tab_SK {α : Type} (k : α → Str) (v : α → Dat) (C : List α) : SK (tabT k v C) := fun p hp => by
  obtain ⟨a, _, rfl⟩ := List.mem_map.mp hp
  exact ⟨_, rfl⟩
theorem tab_nd {α : Type} {k : α → Str} {v : α → Dat} {C : List α} (h : (C.map k).Nodup) : ((tabT k v C).map (·.1)).Nodup := by
  rw [tab_keys]
  exact List.Pairwise.map _ (fun a b h e => h (Sum.inr.inj e)) h
theorem tab_get {α : Type} {k : α → Str} {v : α → Dat} {C : List α} (h : (C.map k).Nodup) {a : α} (ha : a ∈ C) : getA (tabT k v C) (.inr (k a)) = some (v a) :=
  get_mem (tab_nd h) (p := (.inr (k a), v a)) (List.mem_map.mpr ⟨a, ha, rfl⟩)
theorem tab_nmk {α : Type} (k : α → Str) (v : α → Dat) (C : List α) : nmk (tabT k v C) = C.map k := by
  unfold nmk tabT
  rw [List.map_map]
  rfl
def srtK {α : Type} (k : α → Str) (C : List α) : List α := C.mergeSort fun a b => strLe (k a) (k b)
theorem srtK_perm {α : Type} (k : α → Str) (C : List α) : (srtK k C).Perm C := List.mergeSort_perm _ _
theorem srtK_names {α : Type} (k : α → Str) (C : List α) : (C.map k).mergeSort strLe = (srtK k C).map k := by
  unfold srtK
  rw [List.map_mergeSort (r := fun a b => strLe (k a) (k b)) (s := strLe) (f := k)]
  intro a _ b _
  rfl
theorem srtK_pw {α : Type} (k : α → Str) (C : List α) : (srtK k C).Pairwise fun a b => strLe (k a) (k b) = true :=
  List.pairwise_mergeSort (le := fun a b => strLe (k a) (k b)) (fun a b c h h' => strLe_tr h h') (fun a b => strLe_tot _ _) C
theorem srtK_len {α : Type} (k : α → Str) (C : List α) : (srtK k C).length = C.length := (srtK_perm k C).length_eq
theorem srtK_nd {α : Type} {k : α → Str} {C : List α} (h : (C.map k).Nodup) : ((srtK k C).map k).Nodup := ((srtK_perm k C).map k).nodup_iff.mpr h
theorem srt_tab {α : Type} (k : α → Str) (v : α → Dat) {C : List α} (hl : C.length < 64) : srtKeysD (dD (tabT k v C)) = some ((srtK k C).map k) := by
  rw [srt_A (tab_SK k v C) (by unfold tabT; rw [List.length_map]; exact hl), tab_nmk, srtK_names]
def pairT {α : Type} (k : α → Str) (v : α → Dat) (a : α) : Dat := .tup [.str (k a), v a]
theorem items_tab {α : Type} (k : α → Str) (v : α → Dat) (C : List α) : itemsD ((tabT k v C).map (·.1)) ((tabT k v C).map (·.2)) = C.map (pairT k v) := by
  rw [items_A]
  unfold tabT
  rw [List.map_map]
  rfl
theorem sortIt_tab {α : Type} (k : α → Str) (v : α → Dat) (hv : ∀ a b, PySem.W.alike (py (v a)) (py (v b)) = true) (ht : ∀ a, tf (v a) = true) (hp : ∀ a, pl (v a) = true ∧ (py (v a)).depth ≤ 40) {C : List α} (nd : (C.map k).Nodup) (hl : C.length ≤ 1000) :
    sortItD (dD (tabT k v C)) = some (.lst ((srtK k C).map (pairT k v))) := by
  have pyi : ∀ a, py (pairT k v a) = .tuple [.str (k a), py (v a)] := fun a => by unfold pairT; rw [py, pys, pys, pys, py]
  have c : srtP (C.map (pairT k v)) := by
    refine ⟨fun d hd => ?_, ?_, ?_, by rw [List.length_map, size_is]; omega⟩
    · obtain ⟨a, _, rfl⟩ := List.mem_map.mp hd
      have h1 := hp a
      refine ⟨by unfold pairT; rw [pl, pls, pls, pls, pl, h1.1]; rfl, ?_⟩
      rw [pyi]
      simp only [PyData.depth, PyData.depthAll]
      omega
    · rw [List.map_map]
      refine PySem.W.AllAlike.of fun a b => ?_
      show PySem.W.alike (py (pairT k v a)) (py (pairT k v b)) = true
      rw [pyi, pyi]
      simp only [PySem.W.alike, PySem.W.alikeAll, hv a b]
      rfl
    · rw [List.map_map]
      refine PySem.W.Sortable.tuples fun a => ?_
      show ∃ x r, py (pairT k v a) = _
      rw [pyi]
      exact ⟨_, _, rfl⟩
  show sortItD (.dct _ _) = _
  unfold sortItD
  simp only [items_tab]
  have c' : srtP (itemsD ((tabT k v C).map (·.1)) ((tabT k v C).map (·.2))) := by rw [items_tab]; exact c
  rw [ifp ⟨fun x hx => by
    rw [tab_vals] at hx
    obtain ⟨a, _, rfl⟩ := List.mem_map.mp hx
    exact ht a, c'⟩]
  unfold srtK
  rw [← List.map_mergeSort (r := fun a b => strLe (k a) (k b)) (s := leY) (f := pairT k v)]
  intro a ha b hb
  unfold leY
  rw [pyi, pyi, PySem.W.dataLt_pair (by simp [PySem.W.alike]) (hv b a)]
  by_cases h : k b = k a
  · have e : b = a := by
      obtain ⟨i, hi, ei⟩ := List.mem_iff_getElem.mp ha
      obtain ⟨j, hj, ej⟩ := List.mem_iff_getElem.mp hb
      have := (List.getElem_inj (h₀ := by rw [List.length_map]; exact hj) (h₁ := by rw [List.length_map]; exact hi) nd).mp (by rw [List.getElem_map, List.getElem_map, ei, ej, h])
      subst this
      rw [← ei, ← ej]
    subst e
    have hs : PySem.W.dataLt (.tuple [.str (k b), py (v b)]) (.tuple [.str (k b), py (v b)]) = false := lex_irrefl _
    rw [PySem.W.dataLt_pair (by simp [PySem.W.alike]) (hv b b)] at hs
    rw [hs]
    have := strLe_tot (k b) (k b)
    rw [Bool.or_self] at this
    rw [this]
    simp
  · have e : PyData.eqv (.str (k b)) (.str (k a)) = false := by
      simp only [PyData.eqv]
      exact beq_eq_false_iff_ne.mpr h
    rw [e, if_neg Bool.false_ne_true, PySem.W.dataLt_str]
    unfold strLe
    congr 1
    exact PyProof.Rows.ltCps_eq _ _
/-! fields of a cell -/
def fldK (cs : List Str) (f : Str) : Cel → Option Dat
  | .obj c fs xs => if c ∈ cs then lookF fs xs f else none
  | _ => none
theorem fldZ_cel (cs : List Str) (f : Str) (z : Sto) (k : Nat) : fldZD cs f z (.cel k) = (z[k]?).bind (fldK cs f) := by
  unfold fldZD
  cases h : z[k]? with
  | none => simp only [h]; rfl
  | some c => cases c <;> simp only [h] <;> rfl
theorem fldK_o {cs : List Str} {c f : Str} (fs : List Str) (xs : List Dat) (h : c ∈ cs) : fldK cs f (.obj c fs xs) = lookF fs xs f := if_pos h
theorem fput_is {cs : List Str} {f c : Str} {z : Sto} {k : Nat} {d : Dat} {fs : List Str} {xs : List Dat} (h : z[k]? = some (.obj c fs xs)) (hc : c ∈ cs ∧ fs.length < 1000) : fputD cs f z (.cel k) d = .ok (z.set k (.obj c (putFD f d fs xs).1 (putFD f d fs xs).2)) .non := by
  unfold fputD
  simp only [h]
  exact if_pos hc
@[simp] theorem z_fputZ (cs : List Str) (f : Str) (fa fo : Sto → Rho → EZ Dat) (z : Sto) (ρ : Rho) : fputZ cs f fa fo z ρ = toRZ ((fa z ρ).bind fun z1 d => (fo z1 ρ).bind fun z2 o => fputD cs f z2 o d) ρ fun z (_ : Dat) => .nx z ρ := id rfl
@[simp] theorem z_snE' (f : Rho → Option Dat) (z : Sto) (ρ : Rho) : snE f z ρ = (oz z (f (snR z ρ))).bind opK := by
  unfold snE
  cases f (snR z ρ) <;> rfl
end
end Pq

namespace Pq
open PySem PySem.Spec PyProof.Rows L2
noncomputable section
/-! ### an error that is caught and kept -/
section
variable {X : Cx} {H : Hp} {s : Shared} {pins : List (Addr × Obj)} {σ : L2.St}
theorem inv_adopt {a : Addr} {o : HO} (I : Inv X pins σ H s) (na : H a = none) (nL : a ≠ X.env.locals) (nc : ∀ x c, X.env.cells.lookup x = some c → c ≠ a) (np : ∀ p ∈ X.pn ++ pins, p.1 ≠ a) (n0 : X.s_0.heap.get? a = none) (new : ObjOk X.prog X.w (upd H a o) s.heap a o) : Inv X pins σ (upd H a o) s := by
  have ne : ∀ {b : Addr} {ob : HO}, H b = some ob → b ≠ a := fun {b ob} e z => by rw [z, na] at e; cases e
  refine ⟨I.ok, I.os, I.bare, ⟨I.base.keep, I.base.slot, fun b ob e n hx => ?_, I.base.there, fun b xs e => ?_, fun b o u e => ?_, fun b ps e => ?_⟩, I.loc, I.cell, ?_, fun x c e => ?_, fun p hp => ?_, fun b ob e => ?_, I.len⟩
  · rw [upd_ne (fun z => by rw [z, n0] at e; cases e)]
    exact I.base.free b ob e n hx
  · have qt := I.base.tups b xs e
    rw [upd_ne (ne qt)]
    exact qt
  · have qf := I.base.frzs b o u e
    rw [upd_ne (ne qf)]
    exact qf
  · obtain ⟨more, q⟩ := I.base.tbls b ps e
    exact ⟨more, by rw [upd_ne (ne q)]; exact q⟩
  · rw [upd_ne (fun z => nL z.symm)]
    exact I.free
  · rw [upd_ne (nc x c e)]
    exact I.freeC x c e
  · obtain ⟨h1, h2, h3, h4, h5⟩ := I.pin p hp
    exact ⟨h1, by rw [upd_ne (np p hp)]; exact h2, h3, h4, h5⟩
  · by_cases hb : b = a
    · subst hb
      rw [upd_same] at e
      cases e
      exact new
    · rw [upd_ne hb] at e
      exact (I.hok b ob e).stay (fun c w hc q => q) (fun x q => by rw [upd_ne (ne q)]; exact q) fun x xs q => by rw [upd_ne (ne q)]; exact q
end
/-- an error of the class, its dict -/
def ErrX (cls : Value) (d : Option Addr) (a : Addr) : HO := .ext fun h => ∃ oe vs, h.get? a = some oe ∧ oe.cls = cls ∧ oe.dict = d ∧ oe.data = .fields vs
theorem errX_is (C a : Addr) : ErrX (.ref C) none a = ErrO C a := rfl
theorem errX_ok {P : Program} {w : World} {H : Hp} {h : Heap} {a : Addr} {cls : Value} {d : Option Addr} {oe : Obj} {vs : Array Value} (e : h.get? a = some oe) (hz : Zc cls d oe) (hd : oe.data = .fields vs) : ObjOk P w H h a (ErrX cls d a) :=
  ⟨⟨oe, vs, e, hz.1, hz.2, hd⟩, ⟨oe, e⟩, fun h1 h2 ⟨oe, vs, q1, q2, q3, q4⟩ k => ⟨oe, vs, k _ q1, q2, q3, q4⟩⟩
/-! ### a caught error in the hands of a try: it stands apart from all that is tracked -/
structure Hand (X : Cx) (pq : List (Addr × Obj)) (τ : L2.St) (G : Hp) (B : Heap) (a : Addr) (cls : Value) (d : Option Addr) (sA s : Shared) : Prop where
  here : Inv X pq τ G sA
  ground : ∀ b o, sA.heap.get? b = some o → b ∉ frs X.stack → B.get? b = some o
  up : sA.heap.UpToSlots s.heap
  fly : HandSPX.FlyingZ B X.stack a (Zc cls d) s.heap
  free : G a = none
  os : s.os = sA.os
  bare : AllBare s.gens
namespace Hand
section
variable {X : Cx} {pq : List (Addr × Obj)} {τ : L2.St} {G : Hp} {B : Heap} {a : Addr} {cls : Value} {d : Option Addr} {sA s : Shared} (h : Hand X pq τ G B a cls d sA s)
include h
theorem inv : Inv X pq τ G s := h.here.landed h.ground h.fly.1 h.up h.os h.bare
theorem seen : ∃ ob, s.heap.get? a = some ob ∧ Zc cls d ob ∧ ∃ vs, ob.data = .fields vs :=
  let ⟨ob, vs, e, z, q⟩ := h.fly.there
  ⟨ob, e, z, vs, q⟩
theorem noFrame : a ∉ frs X.stack := fun hm => by
  obtain ⟨ob, e, _, vs, dv⟩ := h.seen
  obtain ⟨_, o, e', nd⟩ := h.fly.2.2.1.mem hm
  have eo : o = ob := Option.some.inj (e'.symm.trans e)
  exact nd vs (eo ▸ dv)
theorem unknown : sA.heap.get? a = none := Option.eq_none_iff_forall_not_mem.mpr fun o q => by
  have z := h.ground a o q h.noFrame
  rw [h.fly.2.1] at z
  cases z
theorem start (hex : X.ex = []) : X.s_0.heap.get? a = none := Option.eq_none_iff_forall_not_mem.mpr fun o q => by
  obtain ⟨o', z⟩ := h.here.base.there a o q (by simp [hex])
  rw [h.unknown] at z
  cases z
theorem pins : ∀ p ∈ X.pn ++ pq, p.1 ≠ a := fun p hp z => by
  have e := (h.here.pin p hp).1
  rw [z, h.unknown] at e
  cases e
theorem moved {h' : Heap} (u : s.heap.UpToSlots h') (f : HandSPX.FlyingZ B X.stack a (Zc cls d) h') : Hand X pq τ G B a cls d sA { s with heap := h' } :=
  { h with up := h.up.trans u, fly := f }
theorem noLocals (hs : X.stack = X.env :: X.outer) (hf : X.env.frame = some X.env.locals) : a ≠ X.env.locals := fun z => h.noFrame (by
  rw [hs, z]
  exact List.mem_filterMap.mpr ⟨_, .head _, hf⟩)
theorem suite (hs : X.stack = X.env :: X.outer) (hf : X.env.frame = some X.env.locals) : ∃ ob, Zc cls d ob ∧ (∃ vs, ob.data = .fields vs) ∧ s.heap.get? a = some ob ∧ Inv (X.suite a ((a, ob) :: (X.pn ++ pq))) [] τ G s := by
  obtain ⟨ob, e, z, vs, dv⟩ := h.seen
  refine ⟨ob, z, ⟨vs, dv⟩, e, h.inv.suite e dv h.free (h.noLocals hs hf) fun hm => h.noFrame ?_⟩
  rw [hs]
  obtain ⟨env, he, q⟩ := List.mem_filterMap.mp hm
  exact List.mem_filterMap.mpr ⟨env, .tail _ he, q⟩
/-- does the clause's class take it? -/
theorem asks {x : Str} {c : Value} {np : Pos} {b : Bool} {Q : Bool → Shared → Prop} {E : Value → Shared → Prop} (hs : X.stack = X.env :: X.outer) (hf : X.env.frame = some X.env.locals) (hn : Names X x c) (hb : PySem.W.exmOne X.K cls c = some b) (q : Q b s) :
    wpAny (model X.prog X.w) (X.A.mark (some (.ref a))) (eval (.Name x np) X.env) (fun v s1 => wpAny (model X.prog X.w) (X.A.mark (some (.ref a))) (excMatches (.ref a) v) Q E s1) E s := by
  obtain ⟨ob, z, _, e, I⟩ := h.suite hs hf
  have ty : PySem.W.Looks (model X.prog X.w) s.heap (typeOf (.ref a)) cls := fun A Q E s' k r => wpAny_typeOf_ref (k _ _ e) (by rw [z.1]; exact r)
  have r : wpAny (model X.prog X.w) (X.A.mark (some (.ref a))) (excMatches (.ref a) c) Q E s := (PySem.W.exm_one (M := model X.prog X.w) h.inv.kIn ty hb).here q
  obtain ⟨hg, hdb, hm | ⟨hm, hv, hnn⟩⟩ := hn
  · exact ld_glob (X := X.suite a ((a, ob) :: (X.pn ++ pq))) I hg hm r hdb
  · exact ld_blt (X := X.suite a ((a, ob) :: (X.pn ++ pq))) I hg hm hv r hnn hdb
end
end Hand
/-- what a try's body lets out is taken in hand -/
theorem hand_of {X : Cx} {pq : List (Addr × Obj)} {xe : Value → Shared → Prop} {W : L2.WX} {u : Value} {s : Shared} {Q : Value → Shared → Prop} {E : Value → Shared → Prop} (ok : X.Ok) (hs : X.stack = X.env :: X.outer) (hf : X.env.frame = some X.env.locals) (x : XE (X.tr (X.pn ++ pq) xe) W u s)
    (q : ∀ τ G B a cls d sA h', u = .ref a → Hand X pq τ G B a cls d sA { s with heap := h' } → W cls d τ G → Q u { s with heap := h' }) :
    wpAny (model X.prog X.w) X.A (noteFrame u X.env) (fun _ s2 => wpAny (model X.prog X.w) X.A (setFlight u none) (fun _ s3 => Q u s3) E s2) E s := by
  obtain ⟨a, B, sA, pins, τ, G, cls, d, rfl, I, nb, up, sky, na, os, ag, w⟩ := x
  have sky' : Sky B (X.env :: X.outer) a (Zc cls d) X.env.locals s.heap := hs ▸ sky
  exact Sky.land Zc.steady (by rw [ok.frames, hs]) hf sky' fun h' fly u' => q τ G B a cls d sA h' rfl ⟨I.ofTry ok, nb, up.trans u', hs.symm ▸ fly, na, os, ag⟩ w
namespace Hand
/-- no clause takes it: it goes on -/
theorem goesOn {X : Cx} {pq : List (Addr × Obj)} {τ : L2.St} {G : Hp} {B : Heap} {a : Addr} {cls : Value} {d : Option Addr} {sA s : Shared} {W : L2.WX} {Q : Flow → Shared → Prop} (h : Hand X pq τ G B a cls d sA s) (hs : X.stack = X.env :: X.outer) (hf : X.env.frame = some X.env.locals) (tk : Takes X W) (w : W cls d τ G) :
    wpAny (model X.prog X.w) X.A (handleBy (.ref a) X.env []) Q X.xe s := by
  obtain ⟨_, _, _, _, _, T, _, _, e, _, dv, tr, _⟩ := id h.fly
  have last : wpAny (model X.prog X.w) X.A (setFlight (.ref a) X.env.frame) (fun _ s4 => wpAny (model X.prog X.w) X.A (throw (.ref a) : Sem Flow) Q X.xe s4) X.xe s := hf ▸ HandSPX.setFlight_upZ h.fly fun h4 held up4 =>
    wpAny_throw (tk _ _ ⟨a, B, sA, pq, τ, G, cls, d, rfl, h.here, h.ground, h.up.trans up4, .inr (.inr held), h.free, h.os, h.bare, w⟩)
  refine wpAny_handleBy_nil ?_
  unfold PySem.passOn
  refine wpAny_bind (wpAny_field e dv tr ?_)
  have no : (Value.ref T == Value.none) = false := by simp
  simp only [no, Bool.false_eq_true, if_false]
  first
    | exact wpAny_bind last
    | exact wpAny_bind (wpAny_pure (wpAny_bind last))
end Hand
/-- what 'except x as n: suite' wishes, where the error may be kept: slot j is n's -/
def wKeep (K : PySem.W.Frag) (c : Value) (j : Nat) (ts : Addr → Value → Option Addr → TS) (Wout : L2.WX) (D : Ends) : L2.WX := fun cls d σ H =>
  ∃ b, PySem.W.exmOne K cls c = some b ∧ (b = true → ∀ a, H a = none → ts a cls d { nx := fun σ' H' => H' a = none → D.nx (σ'.set j none) (upd H' a (ErrX cls d a)), rt := fun _ _ => False } (σ.set j (some (.ref a))) H) ∧
    (b = false → Wout cls d σ H)
section
variable {X : Cx} {x n : Str} {c : Value} {i : Nat} {body suite : List Stmt} {b₀ : Stmt} {np pos pos' : Pos} {tb : L2.WX → TS} {ts : Addr → Value → Option Addr → TS} {Wout : L2.WX}
/-- what the clauses make of an error that a try's body lets out -/
abbrev airOf (X : Cx) (hd : List ExceptHandler) (Q : Flow → Shared → Prop) : Value → Shared → Prop := fun e s1 => wpAny (model X.prog X.w) X.A (noteFrame e X.env) (fun _ s2 => wpAny (model X.prog X.w) X.A (setFlight e none) (fun _ s3 => wpAny (model X.prog X.w) X.A (handleBy e X.env hd) Q X.xe s3) X.xe s2) X.xe s1
theorem ps_try_keep (hs : X.stack = X.env :: X.outer) (hf : X.env.frame = some X.env.locals) (hex : X.ex = []) (hN : X.N.Nodup) (hi : X.N[i]? = some n) (hln : X.env.kindOf n = some .local) (hc : Names X x c) (tk : Takes X Wout)
    (hb : ∀ (W : L2.WX) (pn : List (Addr × Obj)) (xe : Value → Shared → Prop), Takes (X.tr pn xe) W → PassesOwn (model X.prog X.w) X.A X.env xe → PSs (X.tr pn xe) body (tb W))
    (hsu : ∀ (a : Addr) (oe : Obj) (cls : Value) (d : Option Addr) (pn : List (Addr × Obj)), Zc cls d oe → (∃ vs, oe.data = .fields vs) → PSs (X.suite a ((a, oe) :: pn)) (b₀ :: suite) (ts a cls d)) :
    PS X (.Try body [.ExceptHandler (some (.Name x np)) (some n) (b₀ :: suite) pos'] [] [] pos) (fun D σ H => tb (wKeep X.K c i ts Wout D) D σ H) := by
  refine ⟨fun pq s σ H D I h => wpAny_Try_except ?_⟩
  have ok := I.ok
  refine wpAny_mono ((hb (wKeep X.K c i ts Wout D) (X.pn ++ pq) (airOf X [.ExceptHandler (some (.Name x np)) (some n) (b₀ :: suite) pos'] (SP X pq D)) (fun u s' y => ?_) PassesOwn.looking).run [] s σ H D (I.toTry _) h) (fun f s1 e => ?_) fun _ _ e => e
  · refine hand_of (Q := fun u s3 => wpAny (model X.prog X.w) X.A (handleBy u X.env [.ExceptHandler (some (.Name x np)) (some n) (b₀ :: suite) pos']) (SP X pq D) X.xe s3) ok hs hf y fun τ G B a cls d sA h' eu hand ⟨b, hxm, yes, no⟩ => ?_
    subst eu
    refine wpAny_handleBy_cons (codeAny_handlers_test (hand.asks hs hf hc hxm ?_)) nofun
    cases b with
    | false => exact hand.goesOn hs hf tk (no rfl)
    | true =>
      refine codeAny_handlers_suite_as (HandSPX.lands_againZ hand.fly fun h4 fly4 up4 => ?_)
      obtain ⟨ob, z4, dv4, e4, S4⟩ := (hand.moved up4 fly4).suite hs hf
      refine store_ok (X := X.suite a ((a, ob) :: (X.pn ++ pq))) (v := .ref a) S4 hN hi (.inl hln) rfl (fun s5 S5 => ?_) (.inr hln)
      refine wpAny_mono ((hsu a ob cls d (X.pn ++ pq) z4 dv4).run [] s5 _ G _ S5 (yes rfl a hand.free)) (fun f s6 e => ?_) fun _ _ z => z.elim
      -- only a suite that runs to its end is wished for
      have done : ∃ τ6 G6, f = .next ∧ Inv (X.suite a ((a, ob) :: (X.pn ++ pq))) [] τ6 G6 s6 ∧ (G6 a = none → D.nx (τ6.set i none) (upd G6 a (ErrX cls d a))) := by
        cases f with
        | next => exact e.elim fun τ6 e => e.elim fun G6 e => ⟨τ6, G6, rfl, e.1, e.2⟩
        | brk => exact e.elim fun _ e => e.elim fun _ e => e.2.elim
        | cont => exact e.elim fun _ e => e.elim fun _ e => e.2.elim
        | ret u => exact e.elim fun _ e => e.elim fun _ e => e.elim fun _ e => e.2.2.elim
      obtain ⟨τ6, G6, rfl, S6, q6⟩ := done
      obtain ⟨p1, p2, -, -, p5⟩ := S6.pin (a, ob) (.head _)
      obtain ⟨vs, dv⟩ := dv4
      have cells : ∀ y k, X.env.cells.lookup y = some k → k ≠ a := fun y k hy z => by
        obtain ⟨v, o, h1, h2⟩ := S6.cell y k hy
        rw [z, p1] at h1
        exact p5 v ((Option.some.inj h1) ▸ h2)
      have J6 := inv_adopt (S6.unsuite ok) p2 (hand.noLocals hs hf) cells hand.pins (hand.start hex) (errX_ok p1 z4 dv)
      exact gone_ok J6 hN hi hln fun s8 J8 => ⟨_, _, J8, q6 p2⟩
  · cases f with
    | next => exact e.elim fun τ1 e => e.elim fun G1 e => wpAny_execs_nil ⟨τ1, G1, e.1.ofTry ok, e.2⟩
    | brk => exact e.elim fun τ1 e => e.elim fun G1 e => ⟨τ1, G1, e.1.ofTry ok, e.2⟩
    | cont => exact e.elim fun τ1 e => e.elim fun G1 e => ⟨τ1, G1, e.1.ofTry ok, e.2⟩
    | ret u => exact e.elim fun v e => e.elim fun τ1 e => e.elim fun G1 e => ⟨v, τ1, G1, e.1.ofTry ok, e.2.1, e.2.2⟩
end
/-! isinstance of a kept error -/
theorem errO_at {h : Heap} {C a : Addr} (x : ∃ oe vs, h.get? a = some oe ∧ oe.cls = .ref C ∧ oe.dict = none ∧ oe.data = .fields vs) : ∃ oe, PySem.W.InstAt h a oe C none := by
  obtain ⟨oe, vs, h1, h2, h3, h4⟩ := x
  obtain ⟨oc1, od1, oda, osl⟩ := oe
  dsimp only at h2 h3 h4
  subst h2 h3 h4
  exact ⟨_, h1, rfl, rfl, trivial⟩
def rIsK (K : PySem.W.Frag) : List V → Hp → VK → Prop := fun xs H Q => ∃ (a D : Addr) (cv : V) (u : Value) (b : Bool), xs = [.ref a, cv] ∧ ClsV cv u ∧ H a = some (ErrO D a) ∧ ExcC K D ∧ PySem.W.kitOne K (.ref D) u = some b ∧ Q (.bl b) H
def rIsKT (K : PySem.W.Frag) : List V → Hp → VK → Prop := fun xs H Q => ∃ (a D tp : Addr) (cs : List V) (us : List Value) (b : Bool), xs = [.ref a, .ref tp] ∧ H tp = some (.tup cs) ∧ Paired ClsV cs us ∧ H a = some (ErrO D a) ∧ ExcC K D ∧ PySem.W.kitAny K (.ref D) us = some b ∧ Q (.bl b) H
section
variable {X : Cx}
theorem call_isK : CallR X (.builtin "isinstance") (rIsK X.K) := by
  intro pq s σ H xs us Q I r h
  obtain ⟨a, D, cv, u, b, rfl, k, ha, C, e, q⟩ := h
  obtain ⟨u1, u2, rfl, rA, r2⟩ := vals2 r
  have e2 := k.eq r2
  subst e2
  cases rA
  obtain ⟨oe, J⟩ := errO_at (show ObjOk X.prog X.w H s.heap a (ErrO D a) from I.hok a _ ha).1
  exact PySem.W.kia_one (PySem.W.handS_kitx_exc C.hg C.hk C.hs C.hd C.ha C.hn C.ht C.hm) I.kIn J e (fun z => nomatch z) fun tk => ⟨.bl b, H, I.tok tk, rfl, q⟩
theorem call_isKT : CallR X (.builtin "isinstance") (rIsKT X.K) := by
  intro pq s σ H xs us Q I r h
  obtain ⟨a, D, tp, cs, ws, b, rfl, hT, k, ha, C, e, q⟩ := h
  obtain ⟨u1, u2, rfl, rA, r2⟩ := vals2 r
  cases (show u2 = .ref tp from r2)
  cases rA
  obtain ⟨oe, J⟩ := errO_at (show ObjOk X.prog X.w H s.heap a (ErrO D a) from I.hok a _ ha).1
  obtain ⟨_, its, rv, ob, h1, h2, n, h3⟩ := (show ObjOk X.prog X.w H s.heap tp (.tup cs) from I.hok tp _ hT)
  have e3 := ClsV.all k rv
  subst e3
  obtain ⟨oc, od, dt, sl⟩ := ob
  simp only at h2 h3
  subst h2 h3
  exact PySem.W.kia_tup (PySem.W.handS_kitx_exc C.hg C.hk C.hs C.hd C.ha C.hn C.ht C.hm) I.kIn J h1 e (fun z => nomatch z) fun tk => ⟨.bl b, H, I.tok tk, rfl, q⟩
end
/-! ### .. in readings that change the store -/
def keepZ (tbl : List (Str × Bool)) (i j : Nat) (b : Sto → Rho → RZ) (z : Sto) (ρ : Rho) : RZ := match b z ρ with
  | .exc z' ρ' n => match tbl.lookup n with
    | some true => if j < ρ'.length then .nx (z' ++ [.err n]) (((ρ'.set j (some (.fro (.cel z'.length)))).set i (some (.fro (.cel z'.length)))).set j none) else .bad
    | some false => .exc z' ρ' n
    | none => .bad
  | r => r
theorem relZ_wipe {K : PySem.W.Frag} {cm : CM} {F H : Hp} {σ : L2.St} {ρ : Rho} (r : RelZ K cm F H σ ρ) (j : Nat) : RelZ K cm F H (σ.set j none) (ρ.set j none) := Rel.weak r (by rw [List.length_set, List.length_set]; exact r.len) fun k sv h => by
  by_cases hk : k = j
  · subst hk
    by_cases hl : k < ρ.length
    · rw [List.getElem?_set_self hl] at h
      cases h
    · rw [List.getElem?_eq_none (by rw [List.length_set]; omega)] at h
      cases h
  · rw [List.getElem?_set_ne (fun z => hk z.symm)] at h
    exact ⟨h, List.getElem?_set_ne fun z => hk z.symm⟩
section
variable {X : Cx} {c : Str → Addr} {W : L2.WX} {e a b : Expr} {es : List Expr} {pos : Pos}
theorem z_try_keep {x n : Str} {C : Value} {i j : Nat} {body suite : List Stmt} {b₀ : Stmt} {np pos' : Pos} {bd : Sto → Rho → RZ} (tbl : List (Str × Bool)) (hs : X.stack = X.env :: X.outer) (hf : X.env.frame = some X.env.locals) (hex : X.ex = []) (hN : X.N.Nodup) (hj : X.N[j]? = some n) (hln : X.env.kindOf n = some .local)
    (hc : Names X x C) (tk : Takes X W) (ht : ∀ n b, tbl.lookup n = some b → PySem.W.exmOne X.K (.ref (c n)) C = some b)
    (hb : ∀ (W' : L2.WX) (pn : List (Addr × Obj)) (xe : Value → Shared → Prop), Takes (X.tr pn xe) W' → PassesOwn (model X.prog X.w) X.A X.env xe → PSs (X.tr pn xe) body (ofZS X.K c W' bd))
    (hsu : ∀ (a : Addr) (oe : Obj) (pn : List (Addr × Obj)), PSs (X.suite a ((a, oe) :: pn)) (b₀ :: suite) (tAsg (tVar j) (gName i))) :
    PS X (.Try body [.ExceptHandler (some (.Name x np)) (some n) (b₀ :: suite) pos'] [] [] pos) (ofZS X.K c W (keepZ tbl i j bd)) :=
  PS.imp (ps_try_keep (tb := fun W' => ofZS X.K c W' bd) (ts := fun _ _ _ => tAsg (tVar j) (gName i)) hs hf hex hN hj hln hc tk hb (fun a oe cls d pn _ _ => hsu a oe pn)) fun D σ H ⟨cm0, F0, z, ρ, hcc, s, q⟩ => ⟨cm0, F0, z, ρ, hcc, s, by
    unfold keepZ at q
    cases hr : bd z ρ with
    | exc z' ρ' n =>
      rw [hr] at q
      intro σ' H' s'
      have q' : PostZ X.K c W cm0 F0 D (match tbl.lookup n with
        | some true => if j < ρ'.length then .nx (z' ++ [.err n]) (((ρ'.set j (some (.fro (.cel z'.length)))).set i (some (.fro (.cel z'.length)))).set j none) else .bad
        | some false => .exc z' ρ' n
        | none => .bad) := q
      cases hl : tbl.lookup n with
      | none => rw [hl] at q'; exact q'.elim
      | some b =>
        rw [hl] at q'
        refine ⟨b, ht n b hl, fun hb a ha => ?_, fun hb => ?_⟩
        · subst hb
          obtain ⟨cm, F, g, rel⟩ := s'
          simp only at q'
          by_cases hlen : j < ρ'.length
          case neg => rw [if_neg hlen] at q'; exact q'.elim
          rw [if_pos hlen] at q'
          have hlσ : j < σ'.length := by rw [rel.len]; exact hlen
          refine ⟨.ref a, List.getElem?_set_self hlσ, fun _ => ?_⟩
          have gz := g.z
          subst gz
          have ecc : cm.c = c := g.c.trans hcc
          have x2 : Ext F H' F (upd H' a (ErrX (.ref (c n)) none a)) := Ext.open g.fh ha
          have g1 := Grow.ofExt x2 g.cel
          have hta : ∀ k, cm.t k ≠ some a := not_cell g.cel (A := [a]) (fun b hb => by rw [List.mem_singleton.mp hb]; exact ha) a (List.mem_singleton.mpr rfl)
          have g2 := Grow.snoc (a := a) (c := .err n) g1.fh g1.cel (g.fh.free ha) hta (.err (by
            rw [upd_same, show cm n = c n from congrFun ecc n]
            rfl))
          have g3 := g1.trans g2
          have r3 := rel.grow g3
          have hv : R X.K (cm.snoc a (.err n)) F (.ref a) (.cel cm.z.length) := .cel (by
            show (if cm.z.length = cm.z.length then some a else cm.t cm.z.length) = some a
            rw [if_pos rfl])
          exact q' _ _ ⟨_, F, g.trans g3, relZ_wipe ((r3.setZ hv).setZ hv) j⟩
        · subst hb
          exact q' σ' H' s'
    | nx z' ρ' => rw [hr] at q; exact q
    | ret z' d => rw [hr] at q; exact q
    | brk z' ρ' => rw [hr] at q; exact q
    | cont z' ρ' => rw [hr] at q; exact q
    | bad => rw [hr] at q; exact q⟩
/-- names of classes, as values -/
structure PCs (X : Cx) (es : List Expr) (vs : List V) : Prop where
  ex : ∃ t, PA X es t ∧ ∀ σ H (Q : List V → Hp → Prop), Q vs H → t σ H Q
theorem pcs_nil : PCs X [] [] := ⟨_, pa_nil, fun _ _ _ h => h⟩
theorem pcs_own {x : Str} {C : Addr} {vs : List V} {p : Pos} (hg : Gl X x) (hm : X.mg x = some (.ref C)) (h : PCs X es vs) (hd : (x == ("__debug__" : Str)) = false := by decide) (hs : starEach (.Name x p :: es) X.env = (false, eval (.Name x p) X.env) :: starEach es X.env := by rfl) : PCs X (.Name x p :: es) (.ref C :: vs) := by
  obtain ⟨t, h1, h2⟩ := h.ex
  exact ⟨_, pa_cons (pe_glob (v := .ref C) hg hm rfl hd) h1 hs, fun σ H Q q => h2 σ H _ q⟩
theorem pcs_ty {x : Str} {T : String} {vs : List V} {p : Pos} (hg : Gl X x) (hm : X.mg x = none) (hv : bootBuiltins x = some (.type T)) (h : PCs X es vs) (hn : x ≠ "__name__" := by decide) (hd : (x == ("__debug__" : Str)) = false := by decide) (hs : starEach (.Name x p :: es) X.env = (false, eval (.Name x p) X.env) :: starEach es X.env := by rfl) : PCs X (.Name x p :: es) (.ty T :: vs) := by
  obtain ⟨t, h1, h2⟩ := h.ex
  exact ⟨_, pa_cons (pe_bltn (v := .ty T) hg hm hv rfl hn hd) h1 hs, fun σ H Q q => h2 σ H _ q⟩
def isED (tbl : List (Str × Bool)) (z : Sto) (d : Dat) : EZ Dat := match d with
  | .cel k => match z[k]? with
    | some (.err n) => match tbl.lookup n with
      | some b => .ok z (.bl b)
      | none => .bad
    | _ => .bad
  | _ => .bad
def isEZ (tbl : List (Str × Bool)) (f : Sto → Rho → EZ Dat) (z : Sto) (ρ : Rho) : EZ Dat := (f z ρ).bind (isED tbl)
theorem z_isKT {p tp : Pos} {k : Nat} {f : Sto → Rho → EZ Dat} {vs : List V} {us : List Value} (tbl : List (Str × Bool)) (hg : Gl X "isinstance") (hm : X.mg "isinstance" = none) (ha : PE X a (ofZE X.K c W f)) (hes : PCs X es vs) (hv : Paired ClsV vs us) (hl : vs.length ≤ 1000)
    (hk : ∀ n b, tbl.lookup n = some b → ExcC X.K (c n) ∧ PySem.W.kitAny X.K (.ref (c n)) us = some b)
    (he : starEach [a, .Tuple es k tp] X.env = (false, eval a X.env) :: starEach [.Tuple es k tp] X.env := by rfl) (he2 : starEach [.Tuple es k tp] X.env = (false, eval (.Tuple es k tp) X.env) :: starEach [] X.env := by rfl) (hpl : (backTo pos (starEach [.Tuple es k tp] X.env)).any (·.1) = false := by rfl) :
    PE X (.Call (.Name "isinstance" p) [a, .Tuple es k tp] [] pos) (ofZE X.K c W (isEZ tbl f)) := by
  obtain ⟨t, h1, h2⟩ := hes.ex
  refine PE.imp (pe_callB call_isKT hg hm rfl (pa_cons ha (pa_cons (pe_tup h1) pa_nil he2) he) (by decide) (by decide) he hpl) fun σ H Q ⟨cm, F, ρ, hc, rel, q⟩ => ⟨cm, F, ρ, hc, rel, PoE.mono (PoE.bind q) (fun cm1 F1 H1 d z1 g1 q1 v r => ?_) fun _ _ _ _ _ _ h => h⟩
  have ez := g1.z
  subst ez
  refine h2 σ H1 _ ⟨by rw [sizeLine_eq]; omega, fun pv hp => ?_⟩
  show rIsKT X.K [v, .ref pv] (upd H1 pv (.tup vs)) Q
  unfold isED at q1
  split at q1
  · rename_i kk
    split at q1
    · rename_i n hz
      cases hl2 : tbl.lookup n with
      | none => rw [hl2] at q1; exact q1.elim
      | some b =>
        rw [hl2] at q1
        obtain ⟨a', rfl, hta⟩ := r.cel_inv
        obtain ⟨hF, hca⟩ := g1.cel.get hta hz
        have hH := hca.err_inv
        have ecc : cm1.c = c := g1.c.trans hc
        obtain ⟨k1, k2⟩ := hk n b hl2
        have x2 : Ext F1 H1 F1 (upd H1 pv (.tup vs)) := Ext.open g1.fh hp
        refine ⟨a', c n, pv, vs, us, b, rfl, upd_same, hv, ?_, k1, k2, ?_⟩
        · rw [upd_ne (fun z => by rw [z, hp] at hH; cases hH), hH, show cm1 n = c n from congrFun ecc n]
        · exact q1 cm1 F1 _ (Grow.ofExt x2 g1.cel) (.bl b) (.bl b)
    · exact q1.elim
  · exact q1.elim
theorem z_isK {p : Pos} {f : Sto → Rho → EZ Dat} {v : V} {u : Value} (tbl : List (Str × Bool)) (hg : Gl X "isinstance") (hm : X.mg "isinstance" = none) (ha : PE X a (ofZE X.K c W f)) (hes : PCs X [b] [v]) (hv : ClsV v u)
    (hk : ∀ n b, tbl.lookup n = some b → ExcC X.K (c n) ∧ PySem.W.kitOne X.K (.ref (c n)) u = some b)
    (he : starEach [a, b] X.env = (false, eval a X.env) :: starEach [b] X.env := by rfl) (hpl : (backTo pos (starEach [b] X.env)).any (·.1) = false := by rfl) :
    PE X (.Call (.Name "isinstance" p) [a, b] [] pos) (ofZE X.K c W (isEZ tbl f)) := by
  obtain ⟨t, h1, h2⟩ := hes.ex
  refine PE.imp (pe_callB call_isK hg hm rfl (pa_cons ha h1 he) (by decide) (by decide) he hpl) fun σ H Q ⟨cm, F, ρ, hc, rel, q⟩ => ⟨cm, F, ρ, hc, rel, PoE.mono (PoE.bind q) (fun cm1 F1 H1 d z1 g1 q1 v' r => ?_) fun _ _ _ _ _ _ h => h⟩
  have ez := g1.z
  subst ez
  refine h2 σ H1 _ ?_
  show rIsK X.K [v', v] H1 Q
  unfold isED at q1
  split at q1
  · rename_i kk
    split at q1
    · rename_i n hz
      cases hl2 : tbl.lookup n with
      | none => rw [hl2] at q1; exact q1.elim
      | some b =>
        rw [hl2] at q1
        obtain ⟨a', rfl, hta⟩ := r.cel_inv
        obtain ⟨hF, hca⟩ := g1.cel.get hta hz
        have hH := hca.err_inv
        have ecc : cm1.c = c := g1.c.trans hc
        obtain ⟨k1, k2⟩ := hk n b hl2
        refine ⟨a', c n, v, u, b, rfl, hv, ?_, k1, k2, ?_⟩
        · rw [hH, show cm1 n = c n from congrFun ecc n]
        · exact q1 cm1 F1 H1 (Grow.refl g1.fh g1.cel) (.bl b) (.bl b)
    · exact q1.elim
  · exact q1.elim
end
/-! ### what is known of the classes of errors -/
def errB (T D : Str) : Bool := decide (T = D ∨ T = "MendError")
structure ErrK (K : PySem.W.Frag) (mg : Str → Option Value) (cm : Str → Addr) (raised asked : List Str) : Prop where
  g : ∀ T ∈ asked, mg T = some (.ref (cm T))
  sub : ∀ D ∈ raised, D ∈ asked
  kp : ∀ T ∈ raised, PySem.W.keepIn K (.ref (cm T)) = true
  x : ∀ T ∈ raised, PySem.W.excIn K (cm T) [.type "ValueError", .type "Exception", .type "BaseException", .type "object"] "ValueError.__new__" = true
  b : ∀ T ∈ asked, PySem.W.subIn K (.ref (cm T)) (.type "BaseException") = some true
  t : ∀ T ∈ asked, PySem.W.typeIn K (.ref (cm T)) = some (.type "type")
  h : ∀ T ∈ asked, PySem.W.hasDictIn K (cm T) = true
  e : ∀ D ∈ raised, ExcC K (cm D)
  s : ∀ D ∈ raised, ∀ T ∈ asked, PySem.W.subIn K (.ref (cm D)) (.ref (cm T)) = some (errB T D)
  v : ∀ D ∈ raised, PySem.W.subIn K (.ref (cm D)) (.type "ValueError") = some true
theorem er_cls {cm : Str → Addr} : ∀ Ts : List Str, Paired ClsV (Ts.map fun T => V.ref (cm T)) (Ts.map fun T => Value.ref (cm T))
  | [] => .nil
  | T :: Ts => .cons (.own _) (er_cls Ts)
section
variable {X : Cx} {cm : Str → Addr} {raised asked : List Str} (E : ErrK X.K X.mg cm raised asked)
include E
theorem er_raise {x m : Str} {j : Nat} {p p2 pos : Pos} (hx : x ∈ raised) (hg : Gl X x) (hdb : (x == ("__debug__" : Str)) = false := by decide) : PMk X (.Call (.Name x p) [.Constant (.str m) j p2] [] pos) (fun _ H Q => Q (.ref (cm x)) none H) :=
  pmk_own PySem.F.excBase_ValueError (E.x x hx) (E.g x (E.sub x hx)) (E.kp x hx) (raises_own (E.b x (E.sub x hx)) (E.t x (E.sub x hx))) hg hdb
theorem er_exm {T : Str} (hT : T ∈ asked) {tbl : List (Str × Bool)} (h : (tbl.all fun p => decide (p.1 ∈ raised) && decide (p.2 = errB T p.1)) = true) : ∀ n b, tbl.lookup n = some b → PySem.W.exmOne X.K (.ref (cm n)) (.ref (cm T)) = some b := fun n b hl => by
  have hm : (n, b) ∈ tbl := by
    clear h
    induction tbl with
    | nil => cases hl
    | cons p r ih =>
      obtain ⟨k, v⟩ := p
      rw [List.lookup_cons] at hl
      split at hl
      · rename_i q
        cases hl
        rw [eq_of_beq q]
        exact List.mem_cons_self
      · exact List.mem_cons_of_mem _ (ih hl)
  have := List.all_eq_true.mp h _ hm
  rw [Bool.and_eq_true] at this
  have h1 : n ∈ raised := of_decide_eq_true this.1
  have h2 : b = errB T n := of_decide_eq_true this.2
  rw [h2]
  exact PySem.W.exm_ref (E.b T hT) (E.h T hT) (E.t T hT) (E.s n h1 T hT)
theorem er_kit {D T : Str} (hD : D ∈ raised) (hT : T ∈ asked) : PySem.W.kitOne X.K (.ref (cm D)) (.ref (cm T)) = some (errB T D) := by
  unfold PySem.W.kitOne
  by_cases h : cm D = cm T
  · have h1 := E.s D hD T hT
    have h2 := E.s D hD D (E.sub D hD)
    rw [h] at h1 h2
    have h3 : errB D D = true := decide_eq_true (.inl rfl)
    -- both at the same class
    have h4 : PySem.W.subIn X.K (.ref (cm D)) (.ref (cm D)) = some true := by
      have := E.s D hD D (E.sub D hD)
      rw [this, h3]
    have h5 := E.s D hD T hT
    rw [← h, h4] at h5
    rw [← h, if_pos (beq_self_eq_true _)]
    exact h5
  · rw [if_neg (by intro z; exact h (Value.ref.inj (eq_of_beq z)))]
    have hd := E.h T hT
    obtain ⟨cd, hc, _⟩ := PySem.W.any_some hd
    show (if ((PySem.W.clsIn X.K (cm T)).isSome && PySem.W.typeIn X.K (.ref (cm T)) == some (.type "type")) = true then PySem.W.subIn X.K (.ref (cm D)) (.ref (cm T)) else none) = _
    rw [hc, E.t T hT]
    exact E.s D hD T hT
theorem er_kitV {D : Str} (hD : D ∈ raised) : PySem.W.kitOne X.K (.ref (cm D)) (.type "ValueError") = some true := by
  unfold PySem.W.kitOne
  rw [if_neg (by intro z; cases eq_of_beq z)]
  show (if PySem.W.kitMeta "ValueError" = true then PySem.W.subIn X.K (.ref (cm D)) (.type "ValueError") else none) = _
  rw [if_pos (by decide +kernel)]
  exact E.v D hD
theorem er_any {D : Str} (hD : D ∈ raised) : ∀ Ts : List Str, (∀ T ∈ Ts, T ∈ asked) → PySem.W.kitAny X.K (.ref (cm D)) (Ts.map fun T => Value.ref (cm T)) = some (Ts.any fun T => errB T D)
  | [], _ => rfl
  | T :: Ts, h => by
    rw [List.map_cons, List.any_cons]
    exact kitAny_cons (er_kit E hD (h T List.mem_cons_self)) (fun hb => by rw [hb, Bool.false_or]; exact er_any hD Ts fun U hU => h U (List.mem_cons_of_mem _ hU)) fun hb => by rw [hb]; rfl
theorem er_tblT {Ts : List Str} (hT : ∀ T ∈ Ts, T ∈ asked) {tbl : List (Str × Bool)} (h : (tbl.all fun p => decide (p.1 ∈ raised) && decide (p.2 = Ts.any fun T => errB T p.1)) = true) : ∀ n b, tbl.lookup n = some b → ExcC X.K (cm n) ∧ PySem.W.kitAny X.K (.ref (cm n)) (Ts.map fun T => Value.ref (cm T)) = some b := fun n b hl => by
  have hm : (n, b) ∈ tbl := by
    clear h
    induction tbl with
    | nil => cases hl
    | cons p r ih =>
      obtain ⟨k, v⟩ := p
      rw [List.lookup_cons] at hl
      split at hl
      · rename_i q
        cases hl
        rw [eq_of_beq q]
        exact List.mem_cons_self
      · exact List.mem_cons_of_mem _ (ih hl)
  have := List.all_eq_true.mp h _ hm
  rw [Bool.and_eq_true] at this
  have h1 : n ∈ raised := of_decide_eq_true this.1
  have h2 : b = Ts.any fun T => errB T n := of_decide_eq_true this.2
  rw [h2]
  exact ⟨E.e n h1, er_any E h1 Ts hT⟩
theorem er_tbl1 {T : Str} (hT : T ∈ asked) {tbl : List (Str × Bool)} (h : (tbl.all fun p => decide (p.1 ∈ raised) && decide (p.2 = errB T p.1)) = true) : ∀ n b, tbl.lookup n = some b → ExcC X.K (cm n) ∧ PySem.W.kitOne X.K (.ref (cm n)) (.ref (cm T)) = some b := fun n b hl => by
  have hm : (n, b) ∈ tbl := by
    clear h
    induction tbl with
    | nil => cases hl
    | cons p r ih =>
      obtain ⟨k, v⟩ := p
      rw [List.lookup_cons] at hl
      split at hl
      · rename_i q
        cases hl
        rw [eq_of_beq q]
        exact List.mem_cons_self
      · exact List.mem_cons_of_mem _ (ih hl)
  have := List.all_eq_true.mp h _ hm
  rw [Bool.and_eq_true] at this
  have h1 : n ∈ raised := of_decide_eq_true this.1
  have h2 : b = errB T n := of_decide_eq_true this.2
  rw [h2]
  exact ⟨E.e n h1, er_kit E h1 hT⟩
theorem er_tblV {tbl : List (Str × Bool)} (h : (tbl.all fun p => decide (p.1 ∈ raised) && p.2) = true) : ∀ n b, tbl.lookup n = some b → ExcC X.K (cm n) ∧ PySem.W.kitOne X.K (.ref (cm n)) (.type "ValueError") = some b := fun n b hl => by
  have hm : (n, b) ∈ tbl := by
    clear h
    induction tbl with
    | nil => cases hl
    | cons p r ih =>
      obtain ⟨k, v⟩ := p
      rw [List.lookup_cons] at hl
      split at hl
      · rename_i q
        cases hl
        rw [eq_of_beq q]
        exact List.mem_cons_self
      · exact List.mem_cons_of_mem _ (ih hl)
  have := List.all_eq_true.mp h _ hm
  rw [Bool.and_eq_true] at this
  have h1 : n ∈ raised := of_decide_eq_true this.1
  have h2 : b = true := this.2
  rw [h2]
  exact ⟨E.e n h1, er_kitV E h1⟩
end
end
end Pq

namespace Pq
open PySem PySem.Spec PyProof.Rows L2 PySem.Froz
noncomputable section
/-! ### sets of texts -/
/-- T(args..): what is made, then what its making-ready does -/
theorem type_call {prog : Program} {w : World} {A : Around} {E : Value → Shared → Prop} {s : Shared} {T newId initId : String} {args : List Value} {Q : Value → Shared → Prop} (ft : TypeCalled T newId initId) (chk : checkTypeCall T ⟨args, []⟩ = pure ())
    (h : codeAny (model prog w) A.in1 (.call (.builtin newId) ⟨.type T :: args, []⟩) (wants (fun obj s1 => s1.TypeIs obj T ∧ codeAny (model prog w) A.in1 (.call (.builtin initId) ⟨obj :: args, []⟩) (wants (fun r s2 => r = .none ∧ Q obj s2) E) s1) E) s) :
    wpAny (model prog w) A (call (.type T) args) Q E s := by
  obtain ⟨plain, can, ⟨c, tl, m⟩, made, _, self, init⟩ := ft
  refine wpAny_call (codeAny_of_tree ?_)
  wp_walk
  refine ⟨Code.quiet_builtin _ (by decide +kernel), codeAny_builtin F.entry_type_call ?_⟩
  have fold : A.under (.builtin "type.__call__" ⟨.type T :: args, []⟩) = A.in1 := Around.under_plain (weight_type_call_type T args []) (units_type_call_type T args [])
  rw [show (Value.type T :: ({ pos := args } : Args).pos) = .type T :: args from rfl, fold]
  wp_walk
  refine codeAny_mono h fun r s1 hr => ?_
  match r, hr with
  | .error e, hr => exact hr
  | .ok (.ret obj), hr =>
    obtain ⟨ty, more⟩ := hr
    have look := init.lookup
    have bound := init.bind obj
    wp_walk
    refine codeAny_mono more fun r2 s2 hr2 => ?_
    match r2, hr2 with
    | .error e, hr2 => exact hr2
    | .ok (.ret v), hr2 =>
      obtain ⟨none', q⟩ := hr2
      subst none'
      wp_walk
      exact q

section
variable {prog : Program} {w : World} {A : Around} {E : Value → Shared → Prop} {s : Shared}
def newSetO (w : World) : Obj := { cls := .type "set", dict := none, data := .set #[] 0 (.fresh 0 0 (!w.params.followText "set-order")) }
theorem set_made (a : Value) {Q : Value → Shared → Prop} (q : Q (.ref s.heap.objs.size) { s with heap := s.heap.push (newSetO w) }) : codeAny (model prog w) A (.call (.builtin "set.__new__") ⟨[.type "set", a], []⟩) (wants Q E) s := by
  refine codeAny_call_builtin F.called_set.plain F.entry_set_new (wpAny_of_eq (F.newCall_set_1 a) ?_)
  have self := sub_set_self
  obtain ⟨hp, g, d, tk, os⟩ := s
  unfold Builtin.«set.__new__» Builtin.Frozenset.newClass
  wp_walk
  refine wpAny_askSetting ?_
  wp_walk
  exact q
theorem set_ready {S x : Value} {Q : Value → Shared → Prop} (ty : s.TypeIs S "set") (h : wpAny (model prog w) A.in1 (Builtin.«set.__init__» ⟨[S, x], []⟩) (fun fin s' => match fin with | .done f => wants Q E (.ok f) s' | .again c' => c'.quiet = true ∧ codeAny (model prog w) A c' (wants Q E) s') (fun e s' => wants Q E (.error e) s') s) : codeAny (model prog w) A (.call (.builtin "set.__init__") ⟨[S, x], []⟩) (wants Q E) s := by
  exact codeAny_call_builtin F.called_set.init.plain F.entry_set_init (check_set_init_1 ty h)
end

/-- the texts l in a set at a, its table in order -/
structure TxSet (P : Program) (w : World) (h : Heap) (a : Addr) (l : List Str) : Prop where
  at_ : ∃ D : SD, h.get? a = some (sObj "set" D) ∧ TxOk P w D l ∧ Ris D.2.2.place.toList ∧ (w.params.followText "set-order" = true ∨ D.2.2.led = true)
section
variable {P : Program} {w : World} {A : Around} {E : Value → Shared → Prop} {s : Shared} {a : Addr} {l : List Str}
theorem add_ris {h : Int} {v : Value} {D : SD} (r : Ris D.2.2.place.toList) : Ris (addTx h v D).2.2.place.toList ∧ (addTx h v D).2.2.led = D.2.2.led := by
  have r1 := layNew_ris D.2.2 D.1 h v r
  have l1 := layNew_led D.2.2 D.1 h v
  unfold addTx
  obtain ⟨t2, e2⟩ : ∃ t2, t2 = (if (layNew D.2.2 D.1 h v).2.1.plain = true then { (layNew D.2.2 D.1 h v).2.1 with plain := false } else (layNew D.2.2 D.1 h v).2.1) := ⟨_, rfl⟩
  have p2 : Ris t2.place.toList ∧ t2.led = D.2.2.led := by
    rw [e2]
    split
    · exact ⟨r1, l1⟩
    · exact ⟨r1, l1⟩
  rw [← e2]
  unfold tailTx
  split
  · exact ⟨relayAll_ris _ _ _, (relayAll_led _ _ _).trans p2.2⟩
  · exact p2
theorem TxSet.fresh (hp : Heap) : TxSet P w (hp.push (newSetO w)) hp.objs.size [] :=
  ⟨(#[], 0, .fresh 0 0 (!w.params.followText "set-order")), Heap.get?_push_size _ rfl, .nil rfl, List.Pairwise.nil, by
    cases h : w.params.followText "set-order"
    · exact .inr rfl
    · exact .inl rfl⟩
/-- a text that is there: nothing is done -/
theorem add_known {D : SD} {k : Str} {u : Tok} {Q : Bool → Shared → Prop} (ho : s.heap.get? a = some (sObj "set" D)) (F : TxOk P w D l) (hk : k ∈ l) (hb : l.length < scanBound) (q : Q false s) : wpAny (model P w) A (setAddHashed a (.str k u) (hashStr w k)) Q E s := by
  obtain ⟨es, ep, t⟩ := D
  obtain ⟨e, he, hq⟩ := (F.mem k).mp hk
  have size : es.size = l.length := F.sz
  have some_ : ∃ j, List.findIdx? (fun e => (strKind P w).is k e.2) es.toList = some j := by
    cases h : List.findIdx? (fun e => (strKind P w).is k e.2) es.toList with
    | some j => exact ⟨j, rfl⟩
    | none => exact absurd hq (by simpa using List.findIdx?_eq_none_iff.mp h e he)
  obtain ⟨j, hj⟩ := some_
  unfold setAddHashed setAddHashedIn
  refine wpAny_holding (wpAny_bind (wpAny_setState_of ho rfl F.fit ?_))
  have scan : byScan (.str k u) es = true := byScan_of (knd := strKind P w) rfl (by omega) F.el
  simp only [scan, if_true]
  unfold setAddByScan
  refine wpAny_bind (wpAny_bind (wpAny_rule (wpAny_bind (wpAny_setScan_of (knd := strKind P w) (k := k) (is_str k u) ho rfl F.fit F.el ?_))))
  simp only [hj]
  exact wpAny_pure (wpAny_pure q)
/-- a text put into the set -/
theorem txset_add {k : Str} {u : Tok} {Q : Bool → Shared → Prop} (T : TxSet P w s.heap a l) (room : l.length + 1 < scanBound) (q : ∀ b h', Heap.SameBut a s.heap h' → TxSet P w h' a (if k ∈ l then l else k :: l) → Q b { s with heap := h', toks := s.toks + 1 }) :
    wpAny (model P w) A (setAdd a (.str k u)) Q E s := by
  obtain ⟨D, ho, F, r, led⟩ := T.at_
  unfold setAdd
  refine wpAny_holding (wpAny_bind ((strKind P w).pyHash (k := k) (is_str k u) ?_))
  by_cases hk : k ∈ l
  · refine add_known ho F hk (by omega) ?_
    refine q false s.heap (Heap.SameBut.refl _ _) ?_
    rw [if_pos hk]
    exact T
  · refine add_x ho F hk room (q true _ (Heap.SameBut.update _ _ _) ?_)
    rw [if_neg hk]
    obtain ⟨r2, l2⟩ := add_ris (h := hashStr w k) (v := .str k u) r
    exact ⟨_, get_upd _ ho rfl, add_ok u F, r2, by rw [l2]; exact led⟩
/-- what stands of a set stays while other places change -/
theorem TxSet.stay {h' : Heap} (T : TxSet P w s.heap a l) (k : ∀ o, s.heap.get? a = some o → h'.get? a = some o) : TxSet P w h' a l :=
  let ⟨D, e, r⟩ := T.at_
  ⟨D, k _ e, r⟩
/-- the texts that are walked go into the set, each once -/
theorem upd_texts {I S : Addr} {fp : List Addr} {n : Nat} {Pv : Nat → Value → Prop} {St : Nat → Heap → Prop} {R : Result → Shared → Prop} (W : Walks P w A.in1 I fp [I] n Pv St) (nS : S ∉ fp) {ks : List Str} (len : ks.length = n)
    (val : ∀ i v, Pv i v → ∃ k t, ks[i]? = some k ∧ v = .str k t) (room : n + 1 < scanBound) (rest : List Str) : ∀ (pre l : List Str) (s : Shared), ks = pre ++ rest → St pre.length s.heap → TxSet P w s.heap S l → l.length ≤ pre.length → l.Nodup → (∀ x, x ∈ l ↔ x ∈ pre) →
    (∀ h' tk l', (∀ b o, b ≠ I → b ≠ S → s.heap.get? b = some o → h'.get? b = some o) → TxSet P w h' S l' → l'.Nodup → (∀ x, x ∈ l' ↔ x ∈ ks) → R (.ok (.ret .none)) { s with heap := h', toks := tk }) →
    codeAny (model P w) A (.builtin "set.update.loop" ⟨[.ref S, .ref I], []⟩) R s := by
  have SI : S ≠ I := fun e => nS (e ▸ W.sub I (.head _))
  induction rest with
  | nil =>
    intro pre l s e st T _ nd mem q
    refine codeAny_builtin PyProof.Rows.F.entry_set_update_loop ?_
    rw [Around.under_plainId PyProof.Rows.F.plain_set_update_loop _]
    rw [List.append_nil] at e
    subst e
    refine wpAny_bind (W.done s _ _ (len ▸ st) fun h' tk k => ?_)
    exact wpAny_pure (q h' tk l (fun b o hb _ g => k b o (by simpa using hb) g) (T.stay fun o g => k S o (by simpa using SI) g) nd mem)
  | cons x rest ih =>
    intro pre l s e st T few nd mem q
    have here : ks[pre.length]? = some x := by rw [e]; simp
    have lt : pre.length < n := by rw [← len, e]; simp
    refine codeAny_builtin PyProof.Rows.F.entry_set_update_loop ?_
    rw [Around.under_plainId PyProof.Rows.F.plain_set_update_loop _]
    refine wpAny_bind (W.item pre.length s _ _ lt st fun v h1 tk pv st1 k => ?_)
    obtain ⟨y, t, hy, rfl⟩ := val _ _ pv
    obtain rfl : x = y := Option.some.inj (here.symm.trans hy)
    have T1 : TxSet P w h1 S l := T.stay fun o g => k S o (by simpa using SI) g
    refine wpAny_bind (wpAny_holding (txset_add (s := { s with heap := h1, toks := tk }) T1 (by omega) fun b h2 same T2 => ?_))
    refine wpAny_pure ⟨plainId_quiet PyProof.Rows.F.plain_set_update_loop _, ?_⟩
    refine ih (pre ++ [x]) (if x ∈ l then l else x :: l) _ (by rw [e]; simp) ?_ T2 ?_ ?_ ?_ ?_
    · rw [List.length_append]
      exact W.frame _ _ _ st1 fun b hb o g => (same.2 b fun z => nS (z ▸ hb)).trans g
    · split
      · rw [List.length_append]; omega
      · rw [List.length_append, List.length_cons, List.length_singleton]; omega
    · split
      · exact nd
      · exact List.nodup_cons.mpr ⟨by assumption, nd⟩
    · intro y
      rw [List.mem_append, List.mem_singleton, ← mem y]
      split
      · rename_i hx
        exact ⟨.inl, fun h => h.elim id fun z => z ▸ hx⟩
      · rw [List.mem_cons]
        exact or_comm
    · intro h3 tk3 l3 k3 T3 nd3 mem3
      exact q h3 tk3 l3 (fun b o hb hs g => k3 b o hb hs ((same.2 b hs).trans (k b o (by simpa using hb) g))) T3 nd3 mem3
theorem texts_at : ∀ {vs : List Value} {ks : List Str}, StrsAre vs ks → ∀ (i : Nat) (v : Value), vs[i]? = some v → ∃ k t, ks[i]? = some k ∧ v = .str k t
  | _, _, .nil, i, v, h => by simp at h
  | _, _, .cons n t r, 0, v, h => ⟨n, t, rfl, (Option.some.inj h).symm⟩
  | _, _, .cons n t r, i + 1, v, h => texts_at r i v (by simpa using h)
theorem call_set_texts {ls : Addr} {its : Array Value} {ks : List Str} {Q : Value → Shared → Prop} (hh : A.handled = none) (hl : s.heap.IsList ls its) (hv : StrsAre its.toList ks) (room : ks.length + 1 < scanBound)
    (q : ∀ h' tk l', (∀ b o, s.heap.get? b = some o → h'.get? b = some o) → TxSet P w h' s.heap.objs.size l' → l'.Nodup → (∀ x, x ∈ l' ↔ x ∈ ks) → Q (.ref s.heap.objs.size) { s with heap := h', toks := tk }) : wpAny (model P w) A (call (.type "set") [.ref ls]) Q E s := by
  refine type_call PySem.F.called_set (PySem.F.typeCall_set_1 _) (set_made _ ?_)
  obtain ⟨S, hS⟩ : ∃ S, S = s.heap.objs.size := ⟨_, rfl⟩
  rw [← hS] at q ⊢
  have isS : (s.heap.push (newSetO w)).get? S = some (newSetO w) := by rw [hS]; exact Heap.get?_push_size _ rfl
  refine ⟨⟨_, isS, rfl⟩, set_ready ⟨_, isS, rfl⟩ ?_⟩
  have lt : ls < S := by
    obtain ⟨o, e, _⟩ := hl
    rw [hS]
    exact Heap.lt_size e
  have hl1 : (s.heap.push (newSetO w)).IsList ls its := hl.push _
  obtain ⟨o, eo, hc, k, hd⟩ := id hl1
  obtain ⟨oc, odict, odata, osl⟩ := o
  simp only at hc hd
  subst hc hd
  have n1 := PySem.F.sub_list_set
  have n2 := PySem.F.sub_list_frozenset
  have n3 : (Value.type "list" == Value.type "dict") = false := by decide
  unfold newSetO at isS
  unfold Builtin.«set.__init__» noKeywords Builtin.Frozenset.updateFrom
  generalize hPI : pyIter = PI
  wp_walk
  subst hPI
  refine wpAny_pyIter_list hl1 (wpAny_bind (wpAny_runValue ?_))
  have size1 : (s.heap.push (newSetO w)).objs.size = S + 1 := by rw [Heap.size_push, ← hS]
  obtain ⟨I, hI⟩ : ∃ I, I = (s.heap.push (newSetO w)).objs.size := ⟨_, rfl⟩
  rw [← hI]
  have SI : S < I := by rw [hI, size1]; exact Nat.lt_succ_self S
  have neI : ls ≠ I := Nat.ne_of_lt (Nat.lt_trans lt SI)
  have calm : A.in1.in1.in1.handled = none := hh
  have sz : ks.length = its.size := by rw [← hv.len_eq, Array.length_toList]
  have T0 : TxSet P w ((s.heap.push (newSetO w)).push { cls := .type "list_iterator", data := .fields #[.ref ls, .int 0 0] }) S [] :=
    (show TxSet P w (s.heap.push (newSetO w)) S [] from hS ▸ TxSet.fresh s.heap).stay (s := { s with heap := s.heap.push (newSetO w) }) fun o g => Heap.get?_push_of_some _ g
  refine upd_texts (n := its.size) (Walks.list calm I ls neI its) (S := S) (ks := ks) (fun hm => (List.mem_cons.mp hm).elim (Nat.ne_of_lt SI) fun hm => Nat.ne_of_gt lt (List.mem_singleton.mp hm)) sz (fun i v hi => texts_at hv i v (by rw [Array.getElem?_toList]; exact hi)) (sz ▸ room) ks [] [] _ rfl ?_ T0 (Nat.le_refl _) List.nodup_nil (fun x => Iff.rfl) fun h' tk l' keep T' nd mem => ?_
  · exact ⟨⟨_, by rw [hI]; exact Heap.get?_push_size _ rfl, rfl, rfl⟩, hl1.push _⟩
  · wp_walk
    refine ⟨rfl, q h' tk l' (fun b o g => keep b o ?_ ?_ (Heap.get?_push_of_some _ (Heap.get?_push_of_some _ g))) T' nd mem⟩
    · exact Nat.ne_of_lt (Nat.lt_trans (hS ▸ Heap.lt_size g) SI)
    · exact Nat.ne_of_lt (hS ▸ Heap.lt_size g)
end
/-! sets of texts, tracked; sorted(set(texts)) -/
def SetTx (P : Program) (w : World) (a : Addr) (l : List Str) : HO := .ext fun h => TxSet P w h a l
section
variable {X : Cx} {cm : CM}
def rSetT (K : PySem.W.Frag) (P : Program) (w : World) : List V → Hp → VK → Prop := fun xs H Q => ∃ (a : Addr) (ks : List Str), xs = [.ref a] ∧ Rd H a (.lst (ks.map V.str)) ∧ ks.length < 900 ∧ ∀ l p, l.Nodup → (∀ x, x ∈ l ↔ x ∈ ks) → H p = none → Q (.ref p) (upd H p (SetTx P w p l))
theorem cr_setT (hc : X.calm = true) : CallR X (.type "set") (rSetT X.K X.prog X.w) := fun pins s σ H xs us Q I r ⟨a, ks, ex, hl, few, q⟩ => by
  subst ex
  rw [Vals.ref1 r]
  obtain ⟨_, its, n, rv, e⟩ := hl.ok I.hok
  have at_ : s.heap.IsList a its.toArray := ⟨_, e, rfl, n, rfl⟩
  refine call_set_texts (I.ok.hd hc) at_ (by simpa using rv.strs) (by unfold scanBound; omega) fun h' tk l keep T nd mem => ?_
  obtain ⟨D, eD, _⟩ := T.at_
  exact ⟨.ref s.heap.objs.size, upd H s.heap.objs.size (SetTx X.prog X.w s.heap.objs.size l), I.laid (t' := tk) keep (Nat.le_refl _) ⟨T, ⟨_, eD⟩, fun h1 h2 x k => x.stay (s := { s with heap := h1 }) fun o g => k o g⟩, rfl, q l _ nd mem I.fresh⟩
theorem perm_nodup {l : List Str} : ∀ {ks : List Str}, l.Nodup → (∀ x ∈ l, x ∈ ks) → ks.length = l.length → ks.Perm l := by
  induction l with
  | nil =>
    intro ks _ _ e
    rw [List.length_eq_zero_iff.mp e]
  | cons x l ih =>
    intro ks nd mem e
    have hx : x ∈ ks := mem x (.head _)
    obtain ⟨n1, n2⟩ := List.nodup_cons.mp nd
    refine (List.perm_cons_erase hx).trans (.cons x (ih n2 (fun y hy => (List.mem_erase_of_ne (by intro z; subst z; exact n1 hy)).mpr (mem y (.tail _ hy))) ?_))
    rw [List.length_erase_of_mem hx, e]
    rfl
/-- the texts of a set's table -/
theorem table_texts {P : Program} {w : World} {D : SD} {l : List Str} (F : TxOk P w D l) (nd : l.Nodup) : ∃ ks : List Str, StrsAre (D.1.toList.map (·.2)) ks ∧ ks.Perm l := by
  have each : ∀ (es : List (Int × Value)), ElemsOf (strKind P w) es → ∃ ks : List Str, StrsAre (es.map (·.2)) ks ∧ ∀ k, (∃ e ∈ es, (strKind P w).is k e.2 = true) → k ∈ ks := by
    intro es
    induction es with
    | nil => exact fun _ => ⟨[], .nil, fun k ⟨e, he, _⟩ => by cases he⟩
    | cons e es ih =>
      intro el
      obtain ⟨ks, h1, h2⟩ := ih el.tail
      obtain ⟨⟨k, hk, _⟩, _⟩ := el.head
      obtain ⟨t, ev⟩ := Value.isStrOf_shape (x := k) (v := e.2) hk
      refine ⟨k :: ks, by rw [List.map_cons, ev]; exact .cons k t h1, fun k' ⟨e', he', hk'⟩ => ?_⟩
      rcases List.mem_cons.mp he' with z | z
      · subst z
        obtain ⟨t', ev'⟩ := Value.isStrOf_shape (x := k') (v := e'.2) hk'
        rw [ev] at ev'
        cases ev'
        exact .head _
      · exact .tail _ (h2 k' ⟨e', z, hk'⟩)
  obtain ⟨ks, h1, h2⟩ := each _ F.el
  refine ⟨ks, h1, perm_nodup nd (fun x hx => h2 x ((F.mem x).mp hx)) ?_⟩
  rw [← h1.len_eq, List.length_map, Array.length_toList, F.sz]
theorem vals_texts : ∀ {us : List Value} {ks : List Str}, StrsAre us ks → Vals (ks.map V.str) us
  | _, _, .nil => .nil
  | _, _, .cons n t r => .cons ⟨t, rfl⟩ (vals_texts r)
theorem strs_perm : ∀ {us us' : List Value}, us'.Perm us → ∀ {ks : List Str}, StrsAre us ks → ∃ ks', StrsAre us' ks' ∧ ks'.Perm ks := by
  intro us us' p
  induction p with
  | nil => exact fun r => ⟨_, r, .refl _⟩
  | cons x p ih =>
    intro ks r
    cases r with
    | cons n t r =>
      obtain ⟨ks', h1, h2⟩ := ih r
      exact ⟨n :: ks', .cons n t h1, .cons n h2⟩
  | swap x y l =>
    intro ks r
    cases r with
    | cons n t r =>
      cases r with
      | cons n' t' r => exact ⟨n' :: n :: _, .cons n' t' (.cons n t r), .swap _ _ _⟩
  | trans p1 p2 ih1 ih2 =>
    intro ks r
    obtain ⟨k2, h1, h2⟩ := ih2 r
    obtain ⟨k1, h3, h4⟩ := ih1 h1
    exact ⟨k1, h3, h4.trans h2⟩
def rSortT (P : Program) (w : World) : List V → Hp → VK → Prop := fun xs H Q => ∃ (p : Addr) (l : List Str), xs = [.ref p] ∧ H p = some (SetTx P w p l) ∧ l.Nodup ∧ l.length < 64 ∧ ∀ ys q, ys.Perm l → sortedS ys = true → H q = none → Q (.ref q) (upd H q (.lst (ys.map V.str)))
theorem cr_sortT (hc : X.calm = true) : CallR X (.builtin "sorted") (rSortT X.prog X.w) := fun pins s σ H xs us Q I r ⟨p, l, ex, hp, nd, few, q⟩ => by
  subst ex
  rw [Vals.ref1 r]
  have T : TxSet X.prog X.w s.heap p l := (show ObjOk X.prog X.w H s.heap p (SetTx X.prog X.w p l) from I.hok p _ hp).1
  obtain ⟨⟨es, ep, t⟩, ho, F, ris, led⟩ := T.at_
  have size : es.size = l.length := F.sz
  refine Calls.call_function_entry PyProof.Rows.kind_sorted PyProof.Rows.plain_sorted PyProof.Rows.entry_sorted (PyProof.Rows.args_sorted1 _) ?_
  refine wpAny_bind (m := checkCount "sorted" 1 1 _) (wpAny_pure (wpAny_bind (collect_set (A := X.A.in1) (I.ok.hd hc) ⟨_, ho, rfl, rfl⟩ F.fit (by rw [size]; unfold scanBound; omega) ris led fun s' out keep _ hg ho' perm => ?_)))
  obtain ⟨ks0, h1, h2⟩ := table_texts F nd
  obtain ⟨ks, h3, h4⟩ := strs_perm perm h1
  have J : Inv X pins σ H { s with heap := s'.heap, gens := s'.gens, drawn := s'.drawn, toks := s'.toks } := I.call (ch := []) (Un.kept keep) (I.hok.kept keep) (by rw [hg]; exact I.bare) (fun _ z => nomatch z)
  have es' : s' = { s with heap := s'.heap, gens := s'.gens, drawn := s'.drawn, toks := s'.toks } := by
    cases s'
    cases s
    simp only at ho'
    rw [ho']
  rw [es']
  exact new_sorted J (vals_texts h3) (by rw [(h4.trans h2).length_eq]; exact few) fun ys a h5 h6 h7 => q ys a (h5.trans (h4.trans h2)) h6 h7
/-! as data -/
def dedupS : List Str → List Str
  | [] => []
  | x :: xs => if x ∈ xs then dedupS xs else x :: dedupS xs
theorem mem_dedup : ∀ (xs : List Str) (y : Str), y ∈ dedupS xs ↔ y ∈ xs
  | [], _ => Iff.rfl
  | x :: xs, y => by
    rw [dedupS]
    split
    · rename_i h
      rw [mem_dedup xs, List.mem_cons]
      exact ⟨.inr, fun z => z.elim (fun e => e ▸ h) id⟩
    · rw [List.mem_cons, List.mem_cons, mem_dedup xs]
theorem nd_dedup : ∀ xs : List Str, (dedupS xs).Nodup
  | [] => List.nodup_nil
  | x :: xs => by
    rw [dedupS]
    split
    · exact nd_dedup xs
    · rename_i h
      exact List.nodup_cons.mpr ⟨fun z => h ((mem_dedup xs x).mp z), nd_dedup xs⟩
theorem perm_mem {l l' : List Str} (n : l.Nodup) (n' : l'.Nodup) (h : ∀ x, x ∈ l ↔ x ∈ l') : l.Perm l' := (List.perm_ext_iff_of_nodup n n').mpr h
def sortSetD (d : Dat) : Option (List Str) := match d with
  | .lst xs => match txsOf xs with
    | some ts => if ts.length < 900 ∧ (dedupS ts).length < 64 then some ((dedupS ts).mergeSort strLe) else none
    | none => none
  | _ => none
variable {a : Expr} {fa : Rho → Option Dat} {pos p p2 q : Pos}
def sortSetO (fa : Rho → Option Dat) : Rho → Option SV := fun ρ => ((fa ρ).bind sortSetD).bind fun ys => some (.ol ((ys.map Dat.str).map SV.fro))
theorem o_sortSet (hc : X.calm = true) (hg : Gl X "sorted") (hm : X.mg "sorted" = none) (hg2 : Gl X "set") (hm2 : X.mg "set" = none) (ha : PE X a (ofE X.K cm fa))
    (ha2 : starEach [a] X.env = (false, eval a X.env) :: starEach [] X.env := by rfl)
    (he : starEach [.Call (.Name "set" p2) [a] [] q] X.env = (false, eval (.Call (.Name "set" p2) [a] [] q) X.env) :: starEach [] X.env := by rfl) (hpl2 : (backTo q (starEach [] X.env)).any (·.1) = false := by rfl) (hpl : (backTo pos (starEach [] X.env)).any (·.1) = false := by rfl) : PE X (.Call (.Name "sorted" p) [.Call (.Name "set" p2) [a] [] q] [] pos) (ofO X.K cm (sortSetO fa)) :=
  PE.imp (pe_callB (cr_sortT hc) hg hm rfl (pa_cons (pe_callTy (cr_setT hc) hg2 hm2 (by decide +kernel) (pa_cons ha pa_nil ha2) (by decide) (by decide) ha2 hpl2) pa_nil he) (by decide) (by decide) he hpl) fun σ H Q ⟨F, ρ, As, sv, rel, hf, k⟩ => by
    obtain ⟨ys, h1, h2⟩ := bind_some hf
    obtain ⟨d, e1, h3⟩ := bind_some h1
    cases h2
    refine ⟨F, ρ, As, d, rel, e1, fun v F1 H1 x1 r1 => ?_⟩
    unfold sortSetD at h3
    split at h3
    case h_2 => cases h3
    rename_i xs
    split at h3
    case h_2 => cases h3
    rename_i ts et
    split at h3
    case isFalse => cases h3
    rename_i few
    cases h3
    obtain ⟨b, vs, rfl, g, z⟩ := r1.lst_inv
    have ev := rs_txs z et
    subst ev
    refine ⟨b, ts, rfl, same_rd x1.fh g, few.1, fun l pv nd mem hp => ?_⟩
    have pl_ : l.Perm (dedupS ts) := perm_mem nd (nd_dedup ts) fun x => (mem x).trans (mem_dedup ts x).symm
    have x2 : Ext F1 H1 F1 (upd H1 pv (SetTx X.prog X.w pv l)) := Ext.open x1.fh hp
    refine ⟨pv, l, rfl, upd_same, nd, by rw [pl_.length_eq]; exact few.2, fun zs p' pr hs hp' => ?_⟩
    have ez := sorted_is (pr.trans pl_) hs
    have x3 : Ext F1 H1 F1 (upd (upd H1 pv (SetTx X.prog X.w pv l)) p' (.lst (zs.map V.str))) := x2.trans (Ext.open x2.fh hp')
    refine k _ F1 _ [p'] (x1.trans x3) ?_ (by simp) (by simpa using x1.h.free ((same_new hp).free hp'))
    rw [← ez]
    exact .ol (x2.fh.free hp') upd_same (ros_fro (rs_strs zs))
def sortSetE (fa : Rho → Option Dat) : Rho → Option Dat := fun ρ => ((fa ρ).bind sortSetD).bind fun ys => some (.lst (ys.map Dat.str))
theorem e_sortSet (hc : X.calm = true) (hg : Gl X "sorted") (hm : X.mg "sorted" = none) (hg2 : Gl X "set") (hm2 : X.mg "set" = none) (ha : PE X a (ofE X.K cm fa))
    (ha2 : starEach [a] X.env = (false, eval a X.env) :: starEach [] X.env := by rfl)
    (he : starEach [.Call (.Name "set" p2) [a] [] q] X.env = (false, eval (.Call (.Name "set" p2) [a] [] q) X.env) :: starEach [] X.env := by rfl) (hpl2 : (backTo q (starEach [] X.env)).any (·.1) = false := by rfl) (hpl : (backTo pos (starEach [] X.env)).any (·.1) = false := by rfl) : PE X (.Call (.Name "sorted" p) [.Call (.Name "set" p2) [a] [] q] [] pos) (ofE X.K cm (sortSetE fa)) := by
  have h := o_to_e (f := fun ρ => ((fa ρ).bind sortSetD).bind fun ys => some (ys.map Dat.str)) (PE.imp (o_sortSet (cm := cm) (pos := pos) (p := p) (p2 := p2) (q := q) hc hg hm hg2 hm2 ha ha2 he hpl2 hpl) fun σ H Q ⟨F, ρ, As, sv, rel, hf, k⟩ => ⟨F, ρ, As, sv, rel, by
    unfold sortSetO
    cases h1 : (fa ρ).bind sortSetD with
    | none => simp only [h1] at hf; cases hf
    | some ys => simp only [h1, Option.bind_some, Option.map_some] at hf ⊢; exact hf, k⟩)
  refine PE.imp h fun σ H Q ⟨F, ρ, As, d, rel, hf, k⟩ => ⟨F, ρ, As, d, rel, ?_, k⟩
  unfold sortSetE at hf
  cases h1 : (fa ρ).bind sortSetD with
  | none => rw [h1] at hf; cases hf
  | some ys =>
    rw [h1] at hf
    simp only [h1, Option.bind_some, Option.map_some] at hf ⊢
    exact hf
end
end
end Pq

namespace Pq
open PySem PySem.Spec PyProof.Rows L2
noncomputable section
/-! ### cells: popped, put -/
@[simp] theorem z_dpop1Z (fo fa : Sto → Rho → EZ Dat) (z : Sto) (ρ : Rho) : dpop1Z fo fa z ρ = (fo z ρ).bind fun z1 o => if isDc z1 o = true then (fa z1 ρ).bind fun z2 kd => popD z2 o kd else .bad := id rfl
theorem tfv_txs (ls : List Str) : tfv (.ol ((txs ls).map SV.fro)) = true := by rw [tfv, tfvs_fro, tfls_txs]
theorem fput_at {cs : List Str} {f c : Str} {z l : Sto} {d : Dat} {fs : List Str} {xs : List Dat} (hc : c ∈ cs ∧ fs.length < 1000) : fputD cs f (z ++ .obj c fs xs :: l) (.cel z.length) d = .ok (z ++ .obj c (putFD f d fs xs).1 (putFD f d fs xs).2 :: l) .non := by
  rw [fput_is (by rw [st_0]; rfl) hc, st_s0]
  rfl
/-! ### errors: raised, kept, asked -/
@[simp] theorem z_excZ (n : Str) (z : Sto) (ρ : Rho) : excZ n z ρ = .exc z ρ n := id rfl
@[simp] theorem z_noneZ (k : Bool) (fa : Sto → Rho → EZ Dat) (z : Sto) (ρ : Rho) : noneZ k fa z ρ = (fa z ρ).bind fun z d => .ok z (.bl (isNo d == k)) := id rfl
def vbZ (z : Sto) (d : Dat) (k : Bool → EZ Dat) : EZ Dat := match d with
  | .bl b => k b
  | _ => .bad
@[simp] theorem vbZ_bl (z : Sto) (b : Bool) (k : Bool → EZ Dat) : vbZ z (.bl b) k = k b := id rfl
@[simp] theorem z_notVZ (fa : Sto → Rho → EZ Dat) (z : Sto) (ρ : Rho) : notVZ fa z ρ = (fa z ρ).bind fun z1 d => vbZ z1 d fun k => .ok z1 (.bl (!k)) := id rfl
@[simp] theorem z_andVZ (fa fb : Sto → Rho → EZ Dat) (z : Sto) (ρ : Rho) : andVZ fa fb z ρ = (fa z ρ).bind fun z1 d => vbZ z1 d fun k => if k = true then fb z1 ρ else .ok z1 (.bl false) := by
  unfold andVZ
  congr 1
  funext z1 d
  cases d with
  | bl k => cases k <;> rfl
  | _ => rfl
@[simp] theorem z_orVZ (fa fb : Sto → Rho → EZ Dat) (z : Sto) (ρ : Rho) : orVZ fa fb z ρ = (fa z ρ).bind fun z1 d => vbZ z1 d fun k => if k = true then .ok z1 (.bl true) else fb z1 ρ := by
  unfold orVZ
  congr 1
  funext z1 d
  cases d with
  | bl k => cases k <;> rfl
  | _ => rfl
def kept (tbl : List (Str × Bool)) (i j : Nat) (r : RZ) : RZ := match r with
  | .exc z' ρ' n => match tbl.lookup n with
    | some true => if j < ρ'.length then .nx (z' ++ [Cel.err n]) (((ρ'.set j (some (.fro (.cel z'.length)))).set i (some (.fro (.cel z'.length)))).set j none) else .bad
    | some false => .exc z' ρ' n
    | none => .bad
  | r => r
@[simp] theorem z_keepZ (tbl : List (Str × Bool)) (i j : Nat) (b : Sto → Rho → RZ) (z : Sto) (ρ : Rho) : keepZ tbl i j b z ρ = kept tbl i j (b z ρ) := id rfl
@[simp] theorem kept_nx (tbl : List (Str × Bool)) (i j : Nat) (z : Sto) (ρ : Rho) : kept tbl i j (.nx z ρ) = .nx z ρ := id rfl
@[simp] theorem kept_ret (tbl : List (Str × Bool)) (i j : Nat) (z : Sto) (d : Dat) : kept tbl i j (.ret z d) = .ret z d := id rfl
theorem kept_exc {tbl : List (Str × Bool)} {i j : Nat} {z : Sto} {ρ : Rho} {n : Str} (h : tbl.lookup n = some true) (hj : j < ρ.length) : kept tbl i j (.exc z ρ n) = .nx (z ++ [Cel.err n]) (((ρ.set j (some (.fro (.cel z.length)))).set i (some (.fro (.cel z.length)))).set j none) := by
  show (match tbl.lookup n with
    | some true => if j < ρ.length then RZ.nx (z ++ [Cel.err n]) (((ρ.set j (some (.fro (.cel z.length)))).set i (some (.fro (.cel z.length)))).set j none) else .bad
    | some false => .exc z ρ n
    | none => .bad) = _
  rw [h]
  exact if_pos hj
@[simp] theorem z_isEZ (tbl : List (Str × Bool)) (f : Sto → Rho → EZ Dat) (z : Sto) (ρ : Rho) : isEZ tbl f z ρ = (f z ρ).bind (isED tbl) := id rfl
theorem isED_is {tbl : List (Str × Bool)} {z : Sto} {k : Nat} {n : Str} {b : Bool} (h : z[k]? = some (.err n)) (hl : tbl.lookup n = some b) : isED tbl z (.cel k) = .ok z (.bl b) := by
  unfold isED
  simp only [h, hl]
@[simp] theorem err_last (z : Sto) (n : Str) : (z ++ [Cel.err n])[z.length]? = some (.err n) := by rw [st_0]; rfl
@[simp] theorem mulX_lst {xs : List Dat} {n : Int} (h : repL xs.length n) : mulX (.lst xs) (.int n) = some (.lst (List.replicate n.toNat xs).flatten) := ifp h
end
end Pq

namespace Pq
open PySem PySem.Spec PyProof.Rows L2
noncomputable section
def S.Disk_files_now_b : Rho → Res := (seqS (asgO 1 (fun _ => some (.od [] [])))
    (seqS (forDS itemsD (un (fldD ["Disk"] "kept") (rd 0)) (hTup 2 (hCons (hName 2) (hCons (hName 3) hNil))) (setDP 1 [] (rd 2) (appO listO (consA (rd 3) nilA))))
    (retV 1)))
def S.Disk_files_now : List Dat → Option Out := fnS 4 1 S.Disk_files_now_b
def S.Disk_spend_b : Sto → Rho → RZ := (seqZ (ifZ (tsZ (noneZ true (fldZ ["Disk"] "left" (lif fun _ => (rd 0))))) rtNZ nilSZ)
    (seqZ (ifZ (tsZ (opZ eqX (fldZ ["Disk"] "left" (lif fun _ => (rd 0))) (lif fun _ => (kD (.int 0))))) (excZ "Fallen") nilSZ)
    (fputZ ["Disk"] "left" (opZ subD (fldZ ["Disk"] "left" (lif fun _ => (rd 0))) (lif fun _ => (kD (.int 1)))) (lif fun _ => (rd 0)))))
def S.Disk_spend : Sto → List Dat → Option OZ := fnZ 1 1 S.Disk_spend_b
def S.Disk_put_b : Sto → Rho → RZ := (seqZ (drpZ (methZ "Disk" "spend" S.Disk_spend (lif fun _ => (rd 0)) nilZ))
    (dputZ (snC (appO listO (consA (rd 2) nilA))) (fldZ ["Disk"] "kept" (lif fun _ => (rd 0))) (lif fun _ => (rd 1))))
def S.Disk_put : Sto → List Dat → Option OZ := fnZ 3 3 S.Disk_put_b
def S.Disk_erase_b : Sto → Rho → RZ := (seqZ (drpZ (methZ "Disk" "spend" S.Disk_spend (lif fun _ => (rd 0)) nilZ))
    (ifZ (tsZ (opZ inX (lif fun _ => (rd 1)) (fldZ ["Disk"] "kept" (lif fun _ => (rd 0))))) (drpZ (dpop1Z (fldZ ["Disk"] "kept" (lif fun _ => (rd 0))) (lif fun _ => (rd 1)))) nilSZ))
def S.Disk_erase : Sto → List Dat → Option OZ := fnZ 2 2 S.Disk_erase_b
def S.turn_to_b : Sto → Rho → RZ := (seqZ (asgZ 2 (methZ "Disk" "files_now" (snpZ S.Disk_files_now) (lif fun _ => (rd 0)) nilZ))
    (forZ (lif fun _ => (itS (app sortQ (consA (bin addD (app listKD (consA (rd 2) nilA)) (fun ρ => (lcDL Lkey (rd 1) [3] (hName 3) (tst (bin ninX (rd 3) (rd 2))) (rd 3) ρ).map Dat.lst)) nilA)))) (hName 3) (ifZ (lif fun _ => (tst (bin ninX (rd 3) (rd 1)))) (drpZ (methZ "Disk" "erase" S.Disk_erase (lif fun _ => (rd 0)) (consZ (lif fun _ => (rd 3)) nilZ))) (ifZ (lif fun _ => (or2 (tst (bin ninX (rd 3) (rd 2))) (tst (bin neX (bin subD' (rd 2) (rd 3)) (bin subD' (rd 1) (rd 3)))))) (drpZ (methZ "Disk" "put" S.Disk_put (lif fun _ => (rd 0)) (consZ (lif fun _ => (rd 3)) (consZ (lif fun _ => (bin subD' (rd 1) (rd 3))) nilZ)))) nilSZ))))
def S.turn_to : Sto → List Dat → Option OZ := fnZ 4 2 S.turn_to_b
def S.Disk_init_b : Sto → Rho → RZ := (seqZ (fputZ ["Disk"] "kept" (aloE fun _ => (fun _ => some (.od [] []))) (lif fun _ => (rd 0)))
    (seqZ (fputZ ["Disk"] "rows" (aloE fun _ => (lstO nilO)) (lif fun _ => (rd 0)))
    (fputZ ["Disk"] "left" (lif fun _ => (kD .non)) (lif fun _ => (rd 0)))))
def S.Disk_init : Sto → List Dat → Option OZ := fnZ 1 1 S.Disk_init_b
def S.Disk_book_now_b : Rho → Res := (retO (appO listO (consA (un (fldD ["Disk"] "rows") (rd 0)) nilA)))
def S.Disk_book_now : List Dat → Option Out := fnS 1 1 S.Disk_book_now_b
def S.Disk_allow_b : Sto → Rho → RZ := (fputZ ["Disk"] "left" (lif fun _ => (rd 1)) (lif fun _ => (rd 0)))
def S.Disk_allow : Sto → List Dat → Option OZ := fnZ 2 2 S.Disk_allow_b
def S.Disk_note_b : Sto → Rho → RZ := (seqZ (drpZ (methZ "Disk" "spend" S.Disk_spend (lif fun _ => (rd 0)) nilZ))
    (drpZ (bmZ isL appD (fldZ ["Disk"] "rows" (lif fun _ => (rd 0))) (consZ (lif fun _ => (tupS (consA (rd 1) (consA (rd 2) nilA)))) nilZ))))
def S.Disk_note : Sto → List Dat → Option OZ := fnZ 3 3 S.Disk_note_b
def S_k62._law_cell_at_b : Rho → Res := (seqS (ifS (tst (bin ltX (rd 1) (app lenD (consA (rd 0) nilA)))) (retS (bin subD' (rd 0) (rd 1))) nilS)
    (retS (kD (.int 0))))
def S_k62._law_cell_at : List Dat → Option Out := fnS 2 2 S_k62._law_cell_at_b
def S_k62._law_mixed_b : Rho → Res := (seqS (asgS 2 (bin modD (bin mulX (bin addD (bin addD (bin modD (rd 0) (kD (.int 2147483647))) (bin mulX (kD (.int 7919)) (rd 1))) (kD (.int 1))) (kD (.int 48271))) (kD (.int 2147483647))))
    (retS (bin modD (bin mulX (rd 2) (bin addD (bin divD (rd 2) (kD (.int 1009))) (kD (.int 69621)))) (kD (.int 2147483647)))))
def S_k62._law_mixed : List Dat → Option Out := fnS 3 2 S_k62._law_mixed_b
def S_k62._law_line_b : Rho → Res := (seqS (asgS 1 (kD (.str " !\"#$&'()*+,-./0123456789:;<=>?@ABCDEFGHIJKLMNOPQRSTUVWXYZ[\\]^_`")))
    (seqS (asgS 1 (bin addD (rd 1) (kD (.str "abcdefghijklmnopqrstuvwxyz{|}~"))))
    (seqS (asgS 2 (bin modD (rd 0) (kD (.int 5))))
    (retS (bin joinD (kD (.str "")) (lcS (itR1 (consA (rd 2) nilA)) [3] (hName 3) yes (bin subD' (rd 1) (bin modD (bin divD (rd 0) (bin addD (kD (.int 5)) (bin mulX (kD (.int 11)) (rd 3)))) (app lenD (consA (rd 1) nilA))))))))))
def S_k62._law_line : List Dat → Option Out := fnS 4 1 S_k62._law_line_b
def S_k62._law_lines_b : Rho → Res := (seqS (asgS 1 (bin addD (kD (.int 40)) (bin mulX (kD (.int 900)) (bin modD (rd 0) (kD (.int 3))))))
    (retO (lcOO (itR1 (consA (bin modD (rd 0) (kD (.int 5))) nilA)) [2] (hName 2) yes (callS S_k62._law_line (consA (bin modD (frzS (callS S_k62._law_mixed (consA (bin divD (rd 0) (kD (.int 5))) (consA (rd 2) nilA)))) (rd 1)) nilA)))))
def S_k62._law_lines : List Dat → Option Out := fnS 3 1 S_k62._law_lines_b
def S_k62._law_path_b : Rho → Res := (seqS (asgS 1 (kD (.str "abcdefghijklmnopqrstuvwxyz")))
    (seqS (asgS 2 (bin modD (rd 0) (kD (.int 5))))
    (seqS (ifS (tst (bin eqX (rd 2) (kD (.int 4)))) (retS (bin addD (bin addD (bin subD' (rd 1) (bin modD (bin divD (rd 0) (kD (.int 5))) (kD (.int 26)))) (kD (.str "/"))) (bin subD' (rd 1) (bin modD (bin divD (rd 0) (kD (.int 130))) (kD (.int 26)))))) nilS)
    (retS (bin subD' (lstS (consA (kD (.str "a")) (consA (kD (.str "a/b")) (consA (kD (.str "conf/ed/three/four")) (consA (kD (.str "zz")) nilA))))) (rd 2))))))
def S_k62._law_path : List Dat → Option Out := fnS 3 1 S_k62._law_path_b
def S_k62._law_files_b : Rho → Res := (seqS (asgO 3 (fun _ => some (.od [] [])))
    (seqS (forS (itR2 (consA (rd 1) (consA (bin addD (rd 1) (bin modD (frzS (callS S_k62._law_mixed (consA (rd 2) (consA (rd 1) nilA)))) (kD (.int 6)))) nilA))) (hName 4) (seqS (asgS 5 (frzS (callS S_k62._law_cell_at (consA (rd 0) (consA (rd 4) nilA)))))
    (setDP 3 [] (frzS (callS S_k62._law_path (consA (frzS (callS S_k62._law_mixed (consA (rd 5) (consA (kD (.int 1)) nilA)))) nilA))) (callS S_k62._law_lines (consA (frzS (callS S_k62._law_mixed (consA (bin mulX (bin divD (rd 5) (kD (.int 3))) (kD (.int 3))) (consA (kD (.int 2)) nilA)))) nilA)))))
    (retV 3)))
def S_k62._law_files : List Dat → Option Out := fnS 6 3 S_k62._law_files_b
def S_k62._law_turned_b : Sto → Rho → RZ := (seqZ (asgZ 2 (lif fun _ => (kD (.bl false))))
    (seqZ (tryZ [("Fallen", true)] (drpZ (callZ S.turn_to (consZ (lif fun _ => (rd 0)) (consZ (lif fun _ => (rd 1)) nilZ)))) (asgZ 2 (lif fun _ => (kD (.bl true)))))
    (retZ (lif fun _ => (rd 2)))))
def S_k62._law_turned : Sto → List Dat → Option OZ := fnZ 3 2 S_k62._law_turned_b
def S_k62.law_b : Sto → Rho → RZ := (seqZ (asgZ 1 (lif fun _ => (frzS (callS S_k62._law_files (consA (rd 0) (consA (kD (.int 1)) (consA (frzS (callS S_k62._law_cell_at (consA (rd 0) (consA (kD (.int 0)) nilA)))) nilA)))))))
    (seqZ (asgZ 2 (lif fun _ => (frzS (callS S_k62._law_files (consA (rd 0) (consA (bin addD (kD (.int 1)) (bin modD (frzS (callS S_k62._law_cell_at (consA (rd 0) (consA (kD (.int 0)) nilA)))) (kD (.int 4)))) (consA (bin divD (frzS (callS S_k62._law_cell_at (consA (rd 0) (consA (kD (.int 0)) nilA)))) (kD (.int 4))) nilA)))))))
    (seqZ (asgZ 3 (mkZ "Disk" S.Disk_init nilZ))
    (seqZ (forDZ itemsD (rd 1) (hTup 2 (hCons (hName 4) (hCons (hName 5) hNil))) (drpZ (methZ "Disk" "put" S.Disk_put (lif fun _ => (rd 3)) (consZ (lif fun _ => (rd 4)) (consZ (lif fun _ => (rd 5)) nilZ)))))
    (seqZ (drpZ (methZ "Disk" "note" S.Disk_note (lif fun _ => (rd 3)) (consZ (lif fun _ => (kD (.str "kind"))) (consZ (lif fun _ => (kD (.str "text"))) nilZ))))
    (seqZ (asgZ 6 (lif fun _ => (sortSetE (bin addD (app listKD (consA (rd 1) nilA)) (app listKD (consA (rd 2) nilA))))))
    (seqZ (lifS fun _ => (asgS 6 (lcS (itS (rd 6)) [4] (hName 4) (tst (bin neX (bin get1D (rd 1) (rd 4)) (bin get1D (rd 2) (rd 4)))) (rd 4))))
    (seqZ (asgZ 7 (lif fun _ => (bin modD (frzS (callS S_k62._law_cell_at (consA (rd 0) (consA (kD (.int 12)) nilA)))) (bin addD (app lenD (consA (rd 6) nilA)) (kD (.int 1))))))
    (seqZ (drpZ (methZ "Disk" "allow" S.Disk_allow (lif fun _ => (rd 3)) (consZ (lif fun _ => (rd 7)) nilZ)))
    (seqZ (asgZ 8 (aloE fun _ => (fun _ => some (.od [] []))))
    (seqZ (forDZ itemsD (rd 2) (hTup 2 (hCons (hName 4) (hCons (hName 5) hNil))) (dputZ (lif fun _ => (app listD (consA (rd 5) nilA))) (lif fun _ => (rd 8)) (lif fun _ => (rd 4))))
    (seqZ (stlTo 8 (ifZ (orZ (tsZ (opZ neX (callZ S_k62._law_turned (consZ (lif fun _ => (rd 3)) (consZ (lif fun _ => (rd 8)) nilZ))) (lif fun _ => (bin ltX (rd 7) (app lenD (consA (rd 6) nilA)))))) (lif fun _ => (tst (bin neX (rd 8) (rd 2))))) (retZ (lif fun _ => (kD (.bl false)))) nilSZ))
    (seqZ (asgZ 9 (aloE fun _ => (appO dictO (consA (rd 1) nilA))))
    (seqZ (forZ (lif fun _ => (itS (slS (rd 6) noP (prt (rd 7))))) (hName 4) (ifZ (lif fun _ => (tst (bin inX (rd 4) (rd 2)))) (dputZ (lif fun _ => (bin subD' (rd 2) (rd 4))) (lif fun _ => (rd 9)) (lif fun _ => (rd 4))) (drpZ (dpop1Z (lif fun _ => (rd 9)) (lif fun _ => (rd 4))))))
    (seqZ (ifZ (orZ (tsZ (opZ neX (methZ "Disk" "files_now" (snpZ S.Disk_files_now) (lif fun _ => (rd 3)) nilZ) (lif fun _ => (rd 9)))) (tsZ (opZ neX (methZ "Disk" "book_now" (snpZ S.Disk_book_now) (lif fun _ => (rd 3)) nilZ) (lif fun _ => (lstS (consA (tupS (consA (kD (.str "kind")) (consA (kD (.str "text")) nilA))) nilA)))))) (retZ (lif fun _ => (kD (.bl false)))) nilSZ)
    (seqZ (drpZ (methZ "Disk" "allow" S.Disk_allow (lif fun _ => (rd 3)) (consZ (lif fun _ => (bin subD (app lenD (consA (rd 6) nilA)) (rd 7))) nilZ)))
    (seqZ (ifZ (orZ (tsZ (callZ S_k62._law_turned (consZ (lif fun _ => (rd 3)) (consZ (lif fun _ => (rd 2)) nilZ)))) (tsZ (opZ neX (methZ "Disk" "files_now" (snpZ S.Disk_files_now) (lif fun _ => (rd 3)) nilZ) (lif fun _ => (rd 2))))) (retZ (lif fun _ => (kD (.bl false)))) nilSZ)
    (seqZ (drpZ (methZ "Disk" "allow" S.Disk_allow (lif fun _ => (rd 3)) (consZ (lif fun _ => (kD (.int 0))) nilZ)))
    (retZ (notVZ (callZ S_k62._law_turned (consZ (lif fun _ => (rd 3)) (consZ (lif fun _ => (rd 2)) nilZ)))))))))))))))))))))))
def S_k62.law : Sto → List Dat → Option OZ := fnZ 10 1 S_k62.law_b
end
end Pq

namespace Pq
open PySem PySem.Spec PyProof.Rows L2
noncomputable section
/-! ### texts and draws -/
theorem len_app (x y : Str) : (x ++ y).length = x.length + y.length := Array.size_append
theorem small_at {i : Int} (h : 0 ≤ i ∧ i < 26) : ∃ x : Str, x.length = 1 ∧ subD' (.str "abcdefghijklmnopqrstuvwxyz") (.int i) = some (.str x) := by
  have hl : ("abcdefghijklmnopqrstuvwxyz" : Str).length = 26 := by decide +kernel
  have hl2 : ("abcdefghijklmnopqrstuvwxyz" : Str).cps.toList.length = 26 := by decide +kernel
  rw [ix_str _ (by rw [hl]; decide)]
  obtain ⟨n, rfl⟩ := Int.eq_ofNat_of_zero_le h.1
  have hn : n < ("abcdefghijklmnopqrstuvwxyz" : Str).cps.toList.length := by rw [hl2]; omega
  have e : atI ("abcdefghijklmnopqrstuvwxyz" : Str).cps.toList ((n : Nat) : Int) = some ("abcdefghijklmnopqrstuvwxyz" : Str).cps.toList[n] := by rw [atI_nat, List.getElem?_eq_getElem hn]
  rw [e]
  exact ⟨_, by rfl, rfl⟩

theorem cutS_len (z : Str) (lo hi : Option Int) : (cutS z lo hi).length ≤ z.length := by
  unfold cutS
  show (_ : Array Nat).size ≤ _
  rw [List.size_toArray, List.length_take, List.length_drop, Array.length_toList]
  show min _ (z.cps.size - _) ≤ z.cps.size
  omega
theorem sl_str' {z : Str} (lo hi : Option Int) (h : z.length ≤ 16777216) : slD (.str z) lo hi = some (.str (cutS z lo hi)) := ifp h
theorem range_at {n i : Nat} {pre suf : List Nat} (e : List.range n = pre ++ i :: suf) : pre.length = i ∧ i < n := by
  have h : (List.range n)[pre.length]? = some i := by rw [e]; simp
  have hl : pre.length < n := by
    have := congrArg List.length e
    simp at this
    omega
  rw [List.getElem?_range hl] at h
  exact ⟨Option.some.inj h, by rw [← Option.some.inj h]; exact hl⟩
/-! ### words: names, paths, lines, numbers, makes -/
def smS : Str := "abcdefghijklmnopqrstuvwxyz"
def fgS : Str := "0123456789"
def sgS : Str := " !\"#$&'()*+,-./0123456789:;<=>?@ABCDEFGHIJKLMNOPQRSTUVWXYZ[\\]^_`abcdefghijklmnopqrstuvwxyz{|}~"
def allB (w z : Str) : Bool := (TL.tl w).all fun c => decide (c ∈ TL.tl z)
theorem all_go (w z : Str) : ∀ (l : List Nat) (x : Option SV),
    (l.all (fun c => decide (c ∈ TL.tl z)) = true ∧ ∃ y, forGo (hName 2) (ifS (tst (bin ninX (rd 2) (rd 1))) (retS (kD (.bl false))) nilS) (l.map sg) [some (.fro (.str w)), some (.fro (.str z)), x] = .nx [some (.fro (.str w)), some (.fro (.str z)), y]) ∨
    (l.all (fun c => decide (c ∈ TL.tl z)) = false ∧ forGo (hName 2) (ifS (tst (bin ninX (rd 2) (rd 1))) (retS (kD (.bl false))) nilS) (l.map sg) [some (.fro (.str w)), some (.fro (.str z)), x] = .ret (.fro (.bl false)))
  | [], x => .inl ⟨rfl, x, rfl⟩
  | c :: l, x => by
    rw [List.all_cons, List.map_cons, forGo]
    by_cases h : c ∈ TL.tl z
    · have ih := all_go w z l (some (.fro (sg c)))
      simpa [h] using ih
    · exact .inr (by simp [h])
def nameB (w : Str) : Bool := decide (1 ≤ w.length) && (decide (w.length ≤ 8) && allB w smS)
theorem slash1 : ("/" : Str).length = 1 := by decide +kernel
theorem dot1 : ("." : Str).length = 1 := by decide +kernel
theorem blank1 : (" " : Str).length = 1 := by decide +kernel
theorem feed1 : ("\n" : Str).length = 1 := by decide +kernel
theorem split_len (x y : Str) : (Txt.split x y).length ≤ x.length + 2 := (PyProof.Rows.fact_split x y).2
theorem split_ne (x y : Str) : Txt.split x y ≠ [] := fun e => by
  have := (PyProof.Rows.fact_split x y).1
  rw [e] at this
  simp at this
def pathB (p : Str) : Bool := decide ((Txt.split p "/").length ≤ 4) && (Txt.split p "/").all nameB
def lineB (x : Str) : Bool := decide (x.length ≤ 60) && allB x sgS
/-! numbers -/
def valS (w : Str) : Int := ((NumText.digitsVal (TL.tl w) : Nat) : Int)
def numO (w : Str) (most : Int) : Option Int := if w.length = 0 ∨ 10 < w.length ∨ allB w fgS = false then none else if ((TL.tl w).head? = some 48 ∧ 1 < w.length) ∨ most < valS w then none else some (valS w)
def noI : Option Int → Dat
  | none => .non
  | some i => .int i
theorem fg_is : TL.tl fgS = [48, 49, 50, 51, 52, 53, 54, 55, 56, 57] := by decide +kernel
theorem str0 (x : Str) : x = "" ↔ x.length = 0 := by
  rw [TL.len0_tl]
  constructor
  · intro e; rw [e]; rfl
  · intro e; exact TL.ext_tl (by rw [e]; rfl)
theorem sg_is {c : Nat} {s : String} (h : s.toList.map Char.toNat = [c]) (d : Nat) : ((⟨#[d]⟩ : Str) = Str.ofString s) ↔ d = c := by
  constructor
  · intro e
    have := congrArg TL.tl e
    rw [TL.tl_ofString, h] at this
    exact (List.cons.inj this).1
  · intro e
    exact TL.ext_tl (by rw [TL.tl_ofString, h, e])
/-! makes -/
def seqO {α : Type} : List (Option α) → Option (List α)
  | [] => some []
  | none :: _ => none
  | some x :: r => (seqO r).map (x :: ·)
def mkO (w : Str) : Option (List Int) := if 3 < (Txt.split w ".").length then none else seqO ((Txt.split w ".").map fun x => numO x 1000000000)
def noM : Option (List Int) → Dat
  | none => .non
  | some m => .tup (nus m)
theorem noI_any : ∀ l : List (Option Int), ((l.map noI).any fun c => eqb c .non) = (seqO l).isNone
  | [] => rfl
  | none :: l => by
    rw [List.map_cons, List.any_cons]
    rfl
  | some i :: l => by
    rw [List.map_cons, List.any_cons, noI_any l, seqO]
    have : eqb (noI (some i)) .non = false := rfl
    rw [this]
    cases seqO l <;> rfl
theorem noI_flat : ∀ l : List (Option Int), (l.map noI).all flat = true
  | [] => rfl
  | none :: l => by rw [List.map_cons, List.all_cons, noI_flat l]; rfl
  | some i :: l => by rw [List.map_cons, List.all_cons, noI_flat l]; rfl
theorem noI_in (l : List (Option Int)) : inX .non (.lst (l.map noI)) = some (.bl (seqO l).isNone) := by
  show (inB .non (.lst _)).map Dat.bl = _
  rw [inB_lst _ _ (by rw [noI_flat]; rfl), noI_any]
  rfl
theorem noI_seq : ∀ {l : List (Option Int)} {m : List Int}, seqO l = some m → l.map noI = nus m
  | [], m, h => by cases h; rfl
  | none :: l, m, h => by cases h
  | some i :: l, m, h => by
    rw [seqO] at h
    cases e : seqO l with
    | none => rw [e] at h; cases h
    | some m' =>
      rw [e] at h
      cases h
      rw [List.map_cons, noI_seq e]
      rfl
end
end Pq

namespace Pq
open PySem PySem.Spec PyProof.Rows L2
noncomputable section
/-! ### tables of a kind, put into -/
def putK {α : Type} (k : α → Str) (a : α) (C : List α) : List α := if k a ∈ C.map k then C.map (fun b => if k b = k a then a else b) else C ++ [a]
theorem putK_tab {α : Type} (k : α → Str) (v : α → Dat) (a : α) (C : List α) : putA (tabT k v C) (.inr (k a)) (v a) = tabT k v (putK k a C) := by
  rw [putA_is, tab_keys]
  unfold putK
  have hm : (Sum.inr (k a) : Key) ∈ (C.map k).map Sum.inr ↔ k a ∈ C.map k := by
    constructor
    · intro h
      obtain ⟨x, hx, e⟩ := List.mem_map.mp h
      rw [Sum.inr.inj e] at hx
      exact hx
    · intro h
      exact List.mem_map_of_mem h
  by_cases h : k a ∈ C.map k
  · rw [if_pos (hm.mpr h), if_pos h]
    unfold tabT
    rw [List.map_map, List.map_map]
    apply List.map_congr_left
    intro b _
    by_cases hb : k b = k a
    · simp [hb]
    · simp [hb]
  · rw [if_neg (fun z => h (hm.mp z)), if_neg h]
    unfold tabT
    rw [List.map_append]
    rfl
theorem putK_keys {α : Type} (k : α → Str) (a : α) (C : List α) : (putK k a C).map k = if k a ∈ C.map k then C.map k else C.map k ++ [k a] := by
  unfold putK
  split
  · rw [List.map_map]
    apply List.map_congr_left
    intro b _
    by_cases hb : k b = k a
    · simp [hb]
    · simp [hb]
  · rw [List.map_append]
    rfl
theorem putK_nd {α : Type} {k : α → Str} {C : List α} (a : α) (h : (C.map k).Nodup) : ((putK k a C).map k).Nodup := by
  rw [putK_keys]
  split
  · exact h
  · rename_i n
    rw [List.nodup_append]
    exact ⟨h, by simp, fun x hx y hy e => n (by rw [List.mem_singleton.mp hy] at e; exact e ▸ hx)⟩
theorem putK_mem {α : Type} {k : α → Str} {C : List α} {a b : α} (h : b ∈ putK k a C) : b = a ∨ b ∈ C := by
  unfold putK at h
  split at h
  · obtain ⟨q, hq, e⟩ := List.mem_map.mp h
    split at e
    · exact .inl e.symm
    · exact .inr (e ▸ hq)
  · rcases List.mem_append.mp h with h | h
    · exact .inr h
    · exact .inl (List.mem_singleton.mp h)
theorem putK_len {α : Type} (k : α → Str) (a : α) (C : List α) : (putK k a C).length ≤ C.length + 1 := by
  unfold putK
  split
  · rw [List.length_map]; omega
  · rw [List.length_append]; exact Nat.le_refl _
/-- a table drawn so far -/
structure TW {α : Type} (k : α → Str) (P : α → Prop) (n : Nat) (C : List α) : Prop where
  ok : ∀ a ∈ C, P a
  nd : (C.map k).Nodup
  len : C.length ≤ n
theorem TW.put {α : Type} {k : α → Str} {P : α → Prop} {n : Nat} {C : List α} (h : TW k P n C) {a : α} (ha : P a) : TW k P (n + 1) (putK k a C) :=
  ⟨fun b hb => (putK_mem hb).elim (fun e => e ▸ ha) (h.ok b), putK_nd a h.nd, by have := putK_len k a C; have := h.len; omega⟩
theorem TW.up {α : Type} {k : α → Str} {P : α → Prop} {n m : Nat} {C : List α} (h : TW k P n C) (hm : n ≤ m) : TW k P m C := ⟨h.ok, h.nd, by have := h.len; omega⟩
theorem TW.nil {α : Type} {k : α → Str} {P : α → Prop} : TW k P 0 ([] : List α) := ⟨(fun _ h => by cases h), List.Pairwise.nil, Nat.le_refl _⟩
/-! ### a disk, as it stands in the store -/
structure Fl where
  path : Str
  lines : List Str
  cell : Nat
def Fl.tab (P : List Fl) : Tb := tabT Fl.path (fun x => .cel x.cell) P
def Fl.vis (P : List Fl) : Tb := tabT Fl.path (fun x => .lst (txs x.lines)) P
def rowsD (R : List (Str × Str)) : List Dat := R.map fun x => .tup [.str x.1, .str x.2]
def lfD : Option Nat → Dat
  | none => .non
  | some n => .int n
def dkF : List Str := ["kept", "rows", "left"]
def dkO (k r : Nat) (l : Option Nat) : Cel := .obj "Disk" dkF [.cel k, .cel r, lfD l]
structure DA (z : Sto) (b k r : Nat) (P : List Fl) (R : List (Str × Str)) (l : Option Nat) : Prop where
  ob : z[b]? = some (dkO k r l)
  kp : z[k]? = some (dctA (Fl.tab P))
  rw_ : z[r]? = some (.lst (rowsD R))
  fl : ∀ x ∈ P, z[x.cell]? = some (.lst (txs x.lines)) ∧ x.cell ≠ r
  nd : (P.map Fl.path).Nodup
/-- all other places stand -/
def Keep (S : List Nat) (z z' : Sto) : Prop := z.length ≤ z'.length ∧ ∀ i, i < z.length → i ∉ S → z'[i]? = z[i]?
theorem Keep.refl (S : List Nat) (z : Sto) : Keep S z z := ⟨Nat.le_refl _, fun _ _ _ => rfl⟩
theorem Keep.trans {S : List Nat} {z z1 z2 : Sto} (h : Keep S z z1) (h' : Keep S z1 z2) : Keep S z z2 :=
  ⟨Nat.le_trans h.1 h'.1, fun i hi hs => (h'.2 i (Nat.lt_of_lt_of_le hi h.1) hs).trans (h.2 i hi hs)⟩
theorem Keep.sub {S S' : List Nat} {z z' : Sto} (h : Keep S z z') (hs : ∀ i ∈ S, i ∈ S') : Keep S' z z' := ⟨h.1, fun i hi hn => h.2 i hi fun hm => hn (hs i hm)⟩
theorem Keep.get {S : List Nat} {z z' : Sto} (h : Keep S z z') {i : Nat} {c : Cel} (e : z[i]? = some c) (hs : i ∉ S) : z'[i]? = some c := by
  rw [h.2 i (List.getElem?_eq_some_iff.mp e).1 hs, e]
theorem keep_set {z : Sto} {i : Nat} {c : Cel} {S : List Nat} (h : i ∈ S) : Keep S z (z.set i c) := ⟨by rw [List.length_set]; exact Nat.le_refl _, fun j _ hj => List.getElem?_set_ne (by intro e; exact hj (e ▸ h))⟩
theorem keep_app {z l : Sto} {S : List Nat} : Keep S z (z ++ l) := ⟨by rw [List.length_append]; omega, fun j hj _ => List.getElem?_append_left hj⟩
theorem at_lt {z : Sto} {i : Nat} {c : Cel} (e : z[i]? = some c) : i < z.length := (List.getElem?_eq_some_iff.mp e).1
section
variable {z : Sto} {b k r : Nat} {P : List Fl} {R : List (Str × Str)} {l : Option Nat}
theorem DA.bk (h : DA z b k r P R l) : b ≠ k := fun e => by
  have h1 := h.ob
  rw [e, h.kp] at h1
  cases h1
theorem DA.br (h : DA z b k r P R l) : b ≠ r := fun e => by
  have h1 := h.ob
  rw [e, h.rw_] at h1
  cases h1
theorem DA.kr (h : DA z b k r P R l) : k ≠ r := fun e => by
  have h1 := h.kp
  rw [e, h.rw_] at h1
  cases h1
theorem DA.fb (h : DA z b k r P R l) {x : Fl} (hx : x ∈ P) : x.cell ≠ b := fun e => by
  have h1 := (h.fl x hx).1
  rw [e, h.ob] at h1
  cases h1
theorem DA.fk (h : DA z b k r P R l) {x : Fl} (hx : x ∈ P) : x.cell ≠ k := fun e => by
  have h1 := (h.fl x hx).1
  rw [e, h.kp] at h1
  cases h1
/-- what the disk stands on -/
theorem DA.keep {z' : Sto} {S : List Nat} (h : DA z b k r P R l) (hk : Keep S z z') (hb : b ∉ S) (hk' : k ∉ S) (hr : r ∉ S) (hf : ∀ x ∈ P, x.cell ∉ S) : DA z' b k r P R l :=
  ⟨hk.get h.ob hb, hk.get h.kp hk', hk.get h.rw_ hr, fun x hx => ⟨hk.get (h.fl x hx).1 (hf x hx), (h.fl x hx).2⟩, h.nd⟩
theorem left_at (h : DA z b k r P R l) : fldZD ["Disk"] "left" z (.cel b) = some (lfD l) := by
  have h0 := h.ob
  unfold dkO dkF at h0
  rw [fldZ_cel, h0, ob_some, fldK_o _ _ (by simp)]
  simp
theorem kept_at (h : DA z b k r P R l) : fldZD ["Disk"] "kept" z (.cel b) = some (.cel k) := by
  have h0 := h.ob
  unfold dkO dkF at h0
  rw [fldZ_cel, h0, ob_some, fldK_o _ _ (by simp)]
  simp
theorem rows_at (h : DA z b k r P R l) : fldZD ["Disk"] "rows" z (.cel b) = some (.cel r) := by
  have h0 := h.ob
  unfold dkO dkF at h0
  rw [fldZ_cel, h0, ob_some, fldK_o _ _ (by simp)]
  simp
theorem left_put (h : DA z b k r P R l) (l' : Option Nat) : fputD ["Disk"] "left" z (.cel b) (lfD l') = .ok (z.set b (dkO k r l')) .non := by
  have h0 := h.ob
  unfold dkO dkF at h0
  rw [fput_is h0 ⟨by simp, by simp⟩]
  simp [putFD, dkO, dkF]
theorem DA.setL (h : DA z b k r P R l) (l' : Option Nat) : DA (z.set b (dkO k r l')) b k r P R l' where
  ob := List.getElem?_set_self (at_lt h.ob)
  kp := by rw [List.getElem?_set_ne h.bk]; exact h.kp
  rw_ := by rw [List.getElem?_set_ne h.br]; exact h.rw_
  fl := fun x hx => ⟨by rw [List.getElem?_set_ne (Ne.symm (h.fb hx))]; exact (h.fl x hx).1, (h.fl x hx).2⟩
  nd := h.nd
theorem disk_in (h : DA z b k r P R l) {m : Str} (hm : m ∈ (["files_now", "book_now", "allow", "spend", "put", "erase", "note"] : List Str)) : isIn z "Disk" m (.cel b) = true := by
  have h0 := h.ob
  unfold dkO dkF at h0
  unfold isIn
  simp only [h0]
  simp only [List.mem_cons, List.not_mem_nil, or_false] at hm
  rcases hm with rfl | rfl | rfl | rfl | rfl | rfl | rfl <;> decide +kernel
/-- one write less -/
def pred1 : Option Nat → Option Nat
  | none => none
  | some n => some (n - 1)
theorem allow_is (h : DA z b k r P R l) (l' : Option Nat) : S.Disk_allow z [.cel b, lfD l'] = some (.ok (z.set b (dkO k r l')) .non) := by
  have e := left_put h l'
  simp [S.Disk_allow, S.Disk_allow_b, e]
theorem spend_no (h : DA z b k r P R (some 0)) : S.Disk_spend z [.cel b] = some (.exc z "Fallen") := by
  have e := left_at h
  have s1 : sn z (.int 0) = some (.int 0) := rfl
  simp [S.Disk_spend, S.Disk_spend_b, e, lfD, isNo, s1, -sn_cel]
theorem spend_is (h : DA z b k r P R l) (hl : l ≠ some 0) : ∃ z', S.Disk_spend z [.cel b] = some (.ok z' .non) ∧ DA z' b k r P R (pred1 l) ∧ Keep [b] z z' ∧ z'.length = z.length := by
  have e := left_at h
  match l, hl, h, e with
  | none, _, h, e => exact ⟨z, by simp [S.Disk_spend, S.Disk_spend_b, e, lfD, isNo], h, .refl _ _, rfl⟩
  | some 0, hl, h, e => exact absurd rfl hl
  | some (n + 1), _, h, e =>
    have p := left_put h (some n)
    have s1 : sn z (.int ((n : Int) + 1)) = some (.int ((n : Int) + 1)) := rfl
    have s2 : sn z (.int 0) = some (.int 0) := rfl
    have s3 : sn z (.int 1) = some (.int 1) := rfl
    have ne : ¬ (n : Int) + 1 = 0 := by omega
    refine ⟨z.set b (dkO k r (some n)), ?_, h.setL (some n), keep_set (by simp), List.length_set⟩
    simp only [lfD] at p
    have e' : fldZD ["Disk"] "left" z (.cel b) = some (.int ((n : Int) + 1)) := by rw [e]; rfl
    simp [S.Disk_spend, S.Disk_spend_b, e', isNo, s1, s2, s3, ne, p, -sn_cel]
end
end
end Pq

namespace Pq
open PySem PySem.Spec PyProof.Rows L2
noncomputable section
/-! the disk as it is seen -/
theorem in_tD (al : Tb) (n : Str) : inD (.str n) (dD al) = some (.bl (getA al (.inr n)).isSome) := by
  have e : inB (.str n) (dD al) = some ((al.map (·.1)).any fun j => decide (j = (Sum.inr n : Key))) := rfl
  unfold inD
  rw [e, List.any_map]
  have := any_mem al (.inr n)
  show some (Dat.bl (al.any fun p => decide (p.1 = .inr n))) = _
  rw [this]
  congr 2
  rw [Bool.eq_iff_iff, decide_eq_true_iff]
  exact getA_some
theorem tab_has {α : Type} (k : α → Str) (v : α → Dat) (C : List α) (n : Str) : (getA (tabT k v C) (.inr n)).isSome = decide (n ∈ C.map k) := by
  rw [Bool.eq_iff_iff, decide_eq_true_iff, ← getA_some, tab_keys]
  constructor
  · intro h
    obtain ⟨x, hx, e⟩ := List.mem_map.mp h
    rw [Sum.inr.inj e] at hx
    exact hx
  · intro h
    exact List.mem_map_of_mem h
def outK {α : Type} (k : α → Str) (n : Str) (C : List α) : List α := C.filter fun a => decide (k a ≠ n)
theorem drop_tab {α : Type} (k : α → Str) (v : α → Dat) (n : Str) (C : List α) : dropA (tabT k v C) (.inr n) = tabT k v (outK k n C) := by
  unfold dropA tabT outK
  rw [List.filter_map]
  congr 1
  apply List.filter_congr
  intro a _
  simp
theorem outK_mem {α : Type} {k : α → Str} {n : Str} {C : List α} {a : α} (h : a ∈ outK k n C) : a ∈ C ∧ k a ≠ n := by
  obtain ⟨h1, h2⟩ := List.mem_filter.mp h
  exact ⟨h1, of_decide_eq_true h2⟩
theorem outK_nd {α : Type} {k : α → Str} {C : List α} (n : Str) (h : (C.map k).Nodup) : ((outK k n C).map k).Nodup := (List.Sublist.map k List.filter_sublist).nodup h
theorem outK_len {α : Type} (k : α → Str) (n : Str) (C : List α) : (outK k n C).length ≤ C.length := List.length_filter_le _ _
def dkV (P : List Fl) (R : List (Str × Str)) (l : Option Nat) : Dat := .obj "Disk" dkF [dD (Fl.vis P), .lst (rowsD R), lfD l]
theorem ncls_rows : ∀ R : List (Str × Str), ncls (rowsD R) = true
  | [] => rfl
  | x :: R => by
    show (ncl (.tup [.str x.1, .str x.2]) && ncls (rowsD R)) = true
    rw [ncls_rows R]
    rfl
theorem ncls_vis : ∀ P : List Fl, ncls ((Fl.vis P).map (·.2)) = true
  | [] => rfl
  | x :: P => by
    show (ncl (.lst (txs x.lines)) && ncls ((Fl.vis P).map (·.2))) = true
    rw [ncls_vis P, ncl, ncls_txs]
    rfl
theorem sn_files {z : Sto} (n : Nat) : ∀ P : List Fl, (∀ x ∈ P, z[x.cell]? = some (.lst (txs x.lines))) → snDs (snN (n + 1) z) (P.map fun x => Dat.cel x.cell) = some (P.map fun x => Dat.lst (txs x.lines))
  | [], _ => rfl
  | x :: P, h => by
    have h0 := h x List.mem_cons_self
    have e1 : snD (snN (n + 1) z) (.cel x.cell) = some (.lst (txs x.lines)) := by
      show (z[x.cell]?).bind (snK (snN n z)) = _
      rw [h0]
      show (snDs _ (txs x.lines)).map Dat.lst = _
      rw [snDs_ncl _ _ (ncls_txs _)]
      rfl
    rw [List.map_cons, snDs, e1, Option.bind_some, sn_files n P fun y hy => h y (List.mem_cons_of_mem _ hy), Option.bind_some]
    rfl
section
variable {z : Sto} {b k r : Nat} {P : List Fl} {R : List (Str × Str)} {l : Option Nat}
theorem snN_kept (h : DA z b k r P R l) (n : Nat) : snN (n + 2) z k = some (dD (Fl.vis P)) := by
  show (z[k]?).bind (snK (snN (n + 1) z)) = _
  rw [h.kp]
  show (snDs _ ((Fl.tab P).map (·.2))).map (Dat.dct ((Fl.tab P).map (·.1))) = _
  unfold Fl.tab
  rw [tab_vals, sn_files n P fun x hx => (h.fl x hx).1, tab_keys]
  show some (Dat.dct _ _) = some (dD (Fl.vis P))
  unfold dD Fl.vis
  rw [tab_keys, tab_vals]
theorem snN_rows (h : DA z b k r P R l) (n : Nat) : snN (n + 1) z r = some (.lst (rowsD R)) := by
  show (z[r]?).bind (snK (snN n z)) = _
  rw [h.rw_]
  show (snDs _ (rowsD R)).map Dat.lst = _
  rw [snDs_ncl _ _ (ncls_rows R)]
  rfl
theorem sn_kept (h : DA z b k r P R l) : sn z (.cel k) = some (dD (Fl.vis P)) := snN_kept h 6
theorem sn_disk (h : DA z b k r P R l) : sn z (.cel b) = some (dkV P R l) := by
  show (z[b]?).bind (snK (snN 7 z)) = _
  rw [h.ob]
  show (snDs _ [.cel k, .cel r, lfD l]).map (Dat.obj "Disk" dkF) = _
  have e1 : snD (snN 7 z) (.cel k) = some (dD (Fl.vis P)) := snN_kept h 5
  have e2 : snD (snN 7 z) (.cel r) = some (.lst (rowsD R)) := snN_rows h 6
  have e3 : snD (snN 7 z) (lfD l) = some (lfD l) := by cases l <;> rfl
  rw [snDs_cons, e1, Option.bind_some, snDs_cons, e2, Option.bind_some, snDs_cons, e3]
  rfl
end
theorem vis_snoc {P : List Fl} {x : Fl} (h : x.path ∉ P.map Fl.path) : putA (Fl.vis P) (.inr x.path) (.lst (txs x.lines)) = Fl.vis (P ++ [x]) := by
  have := putK_tab Fl.path (fun x => Dat.lst (txs x.lines)) x P
  unfold putK at this
  rw [if_neg h] at this
  exact this
@[simp] theorem fld_kept (P : List Fl) (R : List (Str × Str)) (l : Option Nat) : fldD ["Disk"] "kept" (dkV P R l) = some (dD (Fl.vis P)) := by simp [dkV, dkF]
@[simp] theorem fld_drows (P : List Fl) (R : List (Str × Str)) (l : Option Nat) : fldD ["Disk"] "rows" (dkV P R l) = some (.lst (rowsD R)) := by simp [dkV, dkF]
theorem vis_items (P : List Fl) : wd itemsD (dD (Fl.vis P)) = some (P.map (pairT Fl.path fun x => Dat.lst (txs x.lines))) := by
  show some (itemsD ((Fl.vis P).map (·.1)) ((Fl.vis P).map (·.2))) = _
  unfold Fl.vis
  rw [items_tab]
theorem files_now_is {P : List Fl} (nd : (P.map Fl.path).Nodup) (hl : P.length < 900) (R : List (Str × Str)) (l : Option Nat) : S.Disk_files_now [dkV P R l] = some (.ok (oW (Fl.vis P))) := by
  have lp := forGo_each (α := Fl) (h := hTup 2 (hCons (hName 2) (hCons (hName 3) hNil))) (b := setDP 1 [] (rd 2) (appO listO (consA (rd 3) nilA))) (pairT Fl.path fun x => Dat.lst (txs x.lines))
    (fun pre ρ => ∃ x2 x3, ρ = [some (.fro (dkV P R l)), some (oW (Fl.vis pre)), sl x2, sl x3]) P (fun pre x suf e ρ hI => by
    obtain ⟨x2, x3, rfl⟩ := hI
    have hpl : pre.length ≤ P.length := by rw [e, List.length_append]; omega
    rw [e, List.map_append, List.map_cons, List.nodup_append] at nd
    have hx : x.path ∉ pre.map Fl.path := fun hm => nd.2.2 _ hm _ List.mem_cons_self rfl
    refine ⟨_, _, rfl, .inl (setDP_W (n := x.path) (d := .lst (txs x.lines)) rfl rfl rfl ?_ (tab_nd nd.1)), some (.str x.path), some (.lst (txs x.lines)), ?_⟩
    · unfold Fl.vis tabT
      rw [List.length_map]
      omega
    · rw [vis_snoc hx]
      rfl) [some (.fro (dkV P R l)), some (oW []), sl none, sl none] ⟨none, none, rfl⟩
  obtain ⟨ρ', h1, x2, x3, rfl⟩ := lp
  have e0 : (SV.od [] [] : SV) = oW [] := rfl
  have e1 := vis_items P
  simp only [sl_none] at h1
  simp only [S.Disk_files_now, S.Disk_files_now_b, e0]
  simp [e1, h1]
theorem rowsD_fro (R : List (Str × Str)) : listO [.lst (rowsD R)] = some (.ol ((rowsD R).map SV.fro)) := rfl
theorem book_now_is (P : List Fl) (R : List (Str × Str)) (l : Option Nat) : S.Disk_book_now [dkV P R l] = some (.ok (.ol ((rowsD R).map SV.fro))) := by
  have e := rowsD_fro R
  simp [S.Disk_book_now, S.Disk_book_now_b, e]
/-! writes -/
section
variable {z : Sto} {b k r : Nat} {P : List Fl} {R : List (Str × Str)} {l : Option Nat}
theorem put_no (h : DA z b k r P R (some 0)) (p : Str) (d : Dat) : S.Disk_put z [.cel b, .str p, d] = some (.exc z "Fallen") := by
  have e1 := spend_no h
  have e2 := disk_in h (m := "spend") (by simp)
  simp [S.Disk_put, S.Disk_put_b, e1, e2]
theorem erase_no (h : DA z b k r P R (some 0)) (p : Str) : S.Disk_erase z [.cel b, .str p] = some (.exc z "Fallen") := by
  have e1 := spend_no h
  have e2 := disk_in h (m := "spend") (by simp)
  simp [S.Disk_erase, S.Disk_erase_b, e1, e2]
theorem note_no (h : DA z b k r P R (some 0)) (p q : Str) : S.Disk_note z [.cel b, .str p, .str q] = some (.exc z "Fallen") := by
  have e1 := spend_no h
  have e2 := disk_in h (m := "spend") (by simp)
  simp [S.Disk_note, S.Disk_note_b, e1, e2]
/-- a new file's lines stand behind all that stood -/
theorem put_is (h : DA z b k r P R l) (hl : l ≠ some 0) (hP : P.length < 1000000) {p : Str} {d : Dat} {ls : List Str} (hd : ∀ z', Keep [b] z z' → sn z' d = some (.lst (txs ls))) :
    ∃ z', S.Disk_put z [.cel b, .str p, d] = some (.ok z' .non) ∧ DA z' b k r (putK Fl.path ⟨p, ls, z.length⟩ P) R (pred1 l) ∧ Keep [b, k] z z' := by
  obtain ⟨z1, s1, h1, k1, l1⟩ := spend_is h hl
  have e2 := disk_in h (m := "spend") (by simp)
  have hs := hd z1 k1
  have h2 : DA (z1 ++ [Cel.lst (txs ls)]) b k r P R (pred1 l) := h1.keep (S := []) keep_app (by simp) (by simp) (by simp) (by simp)
  have q3 : (z1 ++ [Cel.lst (txs ls)])[z1.length]? = some (.lst (txs ls)) := by rw [st_0]; rfl
  have e3 := kept_at h2
  have e4 := dpt_is (n := p) (d := .cel z1.length) h2.kp (by unfold Fl.tab tabT; rw [List.length_map]; omega)
  have e5 : putA (Fl.tab P) (.inr p) (.cel z1.length) = Fl.tab (putK Fl.path ⟨p, ls, z1.length⟩ P) := putK_tab Fl.path (fun x => Dat.cel x.cell) ⟨p, ls, z1.length⟩ P
  rw [e5] at e4
  have al : alo z1 (.ol ((txs ls).map SV.fro)) = (z1 ++ [Cel.lst (txs ls)], .cel z1.length) := by rw [alo_ol, alos_fro]
  have tv : sncZ z1 (.ol ((txs ls).map SV.fro)) = .ok (z1 ++ [Cel.lst (txs ls)]) (.cel z1.length) := by rw [sncZ_ok z1 (tfv_txs ls), al]
  refine ⟨(z1 ++ [Cel.lst (txs ls)]).set k (dctA (Fl.tab (putK Fl.path ⟨p, ls, z1.length⟩ P))), ?_, ?_, ?_⟩
  · generalize z1 ++ [Cel.lst (txs ls)] = Z at e3 e4 tv ⊢
    simp [S.Disk_put, S.Disk_put_b, e2, s1, snR, hs, tv, e3, e4, -sn_cel]
  · rw [l1] at q3 ⊢
    have hk' : k < z.length := at_lt h.kp
    have hr : r < z.length := at_lt h.rw_
    refine ⟨by rw [List.getElem?_set_ne (Ne.symm h.bk)]; exact h2.ob, List.getElem?_set_self (at_lt h2.kp), by rw [List.getElem?_set_ne h.kr]; exact h2.rw_, fun x hx => ?_, putK_nd _ h.nd⟩
    rcases putK_mem hx with rfl | hx
    · exact ⟨by rw [List.getElem?_set_ne (by show k ≠ z.length; omega)]; exact q3, by show z.length ≠ r; omega⟩
    · exact ⟨by rw [List.getElem?_set_ne (Ne.symm (h2.fk hx))]; exact (h2.fl x hx).1, (h2.fl x hx).2⟩
  · exact ((k1.sub (by simp)).trans keep_app).trans (keep_set (by simp))
theorem erase_is (h : DA z b k r P R l) (hl : l ≠ some 0) (p : Str) : ∃ z', S.Disk_erase z [.cel b, .str p] = some (.ok z' .non) ∧ DA z' b k r (outK Fl.path p P) R (pred1 l) ∧ Keep [b, k] z z' := by
  obtain ⟨z1, s1, h1, k1, l1⟩ := spend_is h hl
  have e2 := disk_in h (m := "spend") (by simp)
  have e3 := kept_at h1
  have e4 := sn_kept h1
  have e5 : inD (.str p) (dD (Fl.vis P)) = some (.bl (decide (p ∈ P.map Fl.path))) := by
    rw [in_tD]
    unfold Fl.vis
    rw [tab_has]
  have s2 : sn z1 (.str p) = some (.str p) := rfl
  by_cases hp : p ∈ P.map Fl.path
  · rw [decide_eq_true hp] at e5
    obtain ⟨x, hx, ex⟩ := List.mem_map.mp hp
    have e6 : popD z1 (.cel k) (.str p) = .ok (z1.set k (dctA (Fl.tab (outK Fl.path p P)))) (.cel x.cell) := by
      have g := tab_get (v := fun x : Fl => Dat.cel x.cell) h.nd hx
      rw [ex] at g
      have q := h1.kp
      unfold popD
      simp only [q, dctA, isK]
      rw [zip_al]
      unfold Fl.tab
      rw [g]
      simp only
      rw [drop_tab]
    have e7 : isDc z1 (.cel k) = true := by rw [isDc_cel, h1.kp]; rfl
    refine ⟨z1.set k (dctA (Fl.tab (outK Fl.path p P))), ?_, ?_, (k1.sub (by simp)).trans (keep_set (by simp))⟩
    · simp [S.Disk_erase, S.Disk_erase_b, e2, s1, e3, e4, e5, e6, e7, s2, -sn_cel, -isDc_cel]
    · refine ⟨by rw [List.getElem?_set_ne (Ne.symm h.bk)]; exact h1.ob, List.getElem?_set_self (at_lt h1.kp), by rw [List.getElem?_set_ne h.kr]; exact h1.rw_, fun x hx => ?_, outK_nd _ h.nd⟩
      have hx := (outK_mem hx).1
      exact ⟨by rw [List.getElem?_set_ne (Ne.symm (h1.fk hx))]; exact (h1.fl x hx).1, (h1.fl x hx).2⟩
  · rw [decide_eq_false hp] at e5
    have e6 : outK Fl.path p P = P := List.filter_eq_self.mpr fun x hx => decide_eq_true fun e => hp (e ▸ List.mem_map_of_mem hx)
    rw [e6]
    refine ⟨z1, ?_, h1, k1.sub (by simp)⟩
    simp [S.Disk_erase, S.Disk_erase_b, e2, s1, e3, e4, e5, s2, -sn_cel]
theorem note_is (h : DA z b k r P R l) (hl : l ≠ some 0) (hR : R.length < 1000000) (p q : Str) : ∃ z', S.Disk_note z [.cel b, .str p, .str q] = some (.ok z' .non) ∧ DA z' b k r P (R ++ [(p, q)]) (pred1 l) ∧ Keep [b, r] z z' := by
  obtain ⟨z1, s1, h1, k1, l1⟩ := spend_is h hl
  have e2 := disk_in h (m := "spend") (by simp)
  have e3 := rows_at h1
  have e4 := appD_is (d := .tup [.str p, .str q]) h1.rw_ (by unfold rowsD; rw [List.length_map]; omega)
  have e5 : rowsD R ++ [.tup [.str p, .str q]] = rowsD (R ++ [(p, q)]) := by unfold rowsD; rw [List.map_append]; rfl
  rw [e5] at e4
  have e6 : isL z1 (.cel r) = true := by rw [isL_cel, h1.rw_]; rfl
  refine ⟨z1.set r (.lst (rowsD (R ++ [(p, q)]))), ?_, ?_, (k1.sub (by simp)).trans (keep_set (by simp))⟩
  · simp [S.Disk_note, S.Disk_note_b, e2, s1, e3, e4, e6, -isL_cel]
  · refine ⟨by rw [List.getElem?_set_ne (Ne.symm h.br)]; exact h1.ob, by rw [List.getElem?_set_ne (Ne.symm h.kr)]; exact h1.kp, List.getElem?_set_self (at_lt h1.rw_), fun x hx => ?_, h.nd⟩
    exact ⟨by rw [List.getElem?_set_ne (Ne.symm (h1.fl x hx).2)]; exact (h1.fl x hx).1, (h1.fl x hx).2⟩
end
/-- a new disk -/
theorem disk_init (z : Sto) : S.Disk_init (z ++ [Cel.obj "Disk" [] []]) [.cel z.length] = some (.ok (z ++ [dkO (z.length + 1) (z.length + 2) none, .dct [] [], .lst []]) .non) := by
  have p1 := fput_at (cs := ["Disk"]) (f := "kept") (c := "Disk") (z := z) (l := [.dct [] []]) (d := .cel (z.length + 1)) (fs := []) (xs := []) ⟨by simp, by simp⟩
  have p2 := fput_at (cs := ["Disk"]) (f := "rows") (c := "Disk") (z := z) (l := [.dct [] [], .lst []]) (d := .cel (z.length + 2)) (fs := ["kept"]) (xs := [.cel (z.length + 1)]) ⟨by simp, by simp⟩
  have p3 := fput_at (cs := ["Disk"]) (f := "left") (c := "Disk") (z := z) (l := [.dct [] [], .lst []]) (d := .non) (fs := ["kept", "rows"]) (xs := [.cel (z.length + 1), .cel (z.length + 2)]) ⟨by simp, by simp⟩
  simp [putFD] at p1 p2 p3
  simp [S.Disk_init, S.Disk_init_b, p1, p2, p3]
  rfl
theorem disk_new (z : Sto) : DA (z ++ [dkO (z.length + 1) (z.length + 2) none, .dct [] [], .lst []]) z.length (z.length + 1) (z.length + 2) [] [] none where
  ob := by rw [st_0]; rfl
  kp := by rw [st_n]; rfl
  rw_ := by rw [st_n]; rfl
  fl := fun x hx => by cases hx
  nd := List.Pairwise.nil
end
end Pq

namespace Pq
open PySem PySem.Spec PyProof.Rows L2
noncomputable section
/-! ### signs of words -/
theorem mem_joinL {S : List Nat} {c : Nat} : ∀ {l : List (List Nat)}, c ∈ TL.joinL S l → c ∈ S ∨ ∃ p ∈ l, c ∈ p
  | [], h => by cases h
  | [p], h => .inr ⟨p, List.mem_singleton.mpr rfl, h⟩
  | p :: q :: r, h => by
    rw [TL.joinL] at h
    rcases List.mem_append.mp h with h | h
    · exact .inr ⟨p, List.mem_cons_self, h⟩
    · rcases List.mem_append.mp h with h | h
      · exact .inl h
      · rcases mem_joinL h with h | ⟨z, hz, h⟩
        · exact .inl h
        · exact .inr ⟨z, List.mem_cons_of_mem _ hz, h⟩
theorem sm_is : TL.tl smS = [97, 98, 99, 100, 101, 102, 103, 104, 105, 106, 107, 108, 109, 110, 111, 112, 113, 114, 115, 116, 117, 118, 119, 120, 121, 122] := by decide +kernel
theorem sgs_ok : ∀ c ∈ TL.tl sgS, 32 ≤ c ∧ c ≤ 126 := by decide +kernel
theorem all_mem {w z : Str} (h : allB w z = true) {c : Nat} (hc : c ∈ TL.tl w) : c ∈ TL.tl z := of_decide_eq_true (List.all_eq_true.mp h c hc)
theorem name_len {w : Str} (h : nameB w = true) : 1 ≤ w.length ∧ w.length ≤ 8 := by
  unfold nameB at h
  rw [Bool.and_eq_true, Bool.and_eq_true] at h
  exact ⟨of_decide_eq_true h.1, of_decide_eq_true h.2.1⟩
theorem name_signs {w : Str} (h : nameB w = true) {c : Nat} (hc : c ∈ TL.tl w) : 97 ≤ c ∧ c ≤ 122 := by
  unfold nameB at h
  rw [Bool.and_eq_true, Bool.and_eq_true] at h
  have := all_mem h.2.2 hc
  rw [sm_is] at this
  simp at this
  omega
theorem name_of {w : Str} (hl : 1 ≤ w.length ∧ w.length ≤ 8) (h : ∀ c ∈ TL.tl w, 97 ≤ c ∧ c ≤ 122) : nameB w = true := by
  unfold nameB
  rw [Bool.and_eq_true, Bool.and_eq_true]
  refine ⟨decide_eq_true hl.1, decide_eq_true hl.2, List.all_eq_true.mpr fun c hc => decide_eq_true ?_⟩
  have := h c hc
  rw [sm_is]
  simp
  omega
theorem join_back (x y : Str) : Txt.join y (Txt.split x y) = x := by rw [TL.join_eq]; exact StrLaws.join_split x y
theorem slash_tl : TL.tl "/" = [47] := by decide +kernel
theorem path_signs {p : Str} (h : pathB p = true) {c : Nat} (hc : c ∈ TL.tl p) : c = 47 ∨ (97 ≤ c ∧ c ≤ 122) := by
  unfold pathB at h
  rw [Bool.and_eq_true, List.all_eq_true] at h
  have e := join_back p "/"
  rw [← e, TL.join_eq, TL.tl_join, slash_tl] at hc
  rcases mem_joinL hc with hc | ⟨q, hq, hc⟩
  · exact .inl (List.mem_singleton.mp hc)
  · obtain ⟨w, hw, rfl⟩ := List.mem_map.mp hq
    exact .inr (name_signs (h.2 w hw) hc)
theorem sum_le8 : ∀ {ws : List Str} {n : Nat}, (∀ w ∈ ws, w.length ≤ n) → (ws.map (·.length)).sum ≤ n * ws.length
  | [], n, _ => Nat.zero_le _
  | w :: ws, n, h => by
    have := sum_le8 fun v hv => h v (List.mem_cons_of_mem w hv)
    have := h w List.mem_cons_self
    rw [List.map_cons, List.sum_cons, List.length_cons, Nat.mul_add, Nat.mul_one]
    omega
theorem path_len {p : Str} (h : pathB p = true) : p.length ≤ 40 := by
  unfold pathB at h
  rw [Bool.and_eq_true, List.all_eq_true] at h
  have e := join_back p "/"
  have h1 := of_decide_eq_true h.1
  have h2 := sum_le8 (ws := Txt.split p "/") (n := 8) fun w hw => (name_len (h.2 w hw)).2
  generalize Txt.split p "/" = ws at e h1 h2
  rw [← e, TL.join_eq]
  have := StrLaws.join_length_le "/" ws
  rw [slash1] at this
  omega
theorem path_ne {p : Str} (h : pathB p = true) : p ≠ "" := fun e => by
  rw [e] at h
  have : pathB "" = false := by decide +kernel
  rw [this] at h
  cases h
theorem path_join {ws : List Str} (h1 : ws ≠ []) (h2 : ws.length ≤ 4) (h : ∀ w ∈ ws, nameB w = true) : pathB (Txt.join "/" ws) = true := by
  have e := TL.split_join (y := "/") slash_tl (by decide +kernel) h1 (fun w hw hc => by
    have := name_signs (h w hw) hc
    omega)
  unfold pathB
  rw [e, Bool.and_eq_true, List.all_eq_true]
  exact ⟨decide_eq_true h2, h⟩
theorem line_len {w : Str} (h : lineB w = true) : w.length ≤ 60 := by
  unfold lineB at h
  rw [Bool.and_eq_true] at h
  exact of_decide_eq_true h.1
theorem line_signs {w : Str} (h : lineB w = true) {c : Nat} (hc : c ∈ TL.tl w) : 32 ≤ c ∧ c ≤ 126 := by
  unfold lineB at h
  rw [Bool.and_eq_true] at h
  exact sgs_ok c (all_mem h.2 hc)
/-! makes shown -/
structure MkW (m : List Int) : Prop where
  ne : m ≠ []
  len : m.length ≤ 3
  num : ∀ i ∈ m, 0 ≤ i ∧ i ≤ 1000000000
def nmS (i : Int) : Str := Str.ofString (toString i)
def mkT (m : List Int) : Str := Txt.join "." (m.map nmS)
theorem nm_tl {i : Int} (h : 0 ≤ i) : TL.tl (nmS i) = TL.numL i.toNat := by
  have := TL.tl_num i.toNat
  rw [Int.toNat_of_nonneg h] at this
  exact this
theorem nm_len {i : Int} (h : 0 ≤ i ∧ i ≤ 1000000000) : (nmS i).length ≤ 10 := by
  rw [TL.len_tl, nm_tl h.1]
  exact TL.numL_len (by omega) (by omega)
theorem nm_pos {i : Int} (h : 0 ≤ i) : 1 ≤ (nmS i).length := by
  rw [TL.len_tl, nm_tl h]
  exact List.length_pos_iff.mpr (TL.numL_ne _)
theorem nm_signs {i : Int} (h : 0 ≤ i) {c : Nat} (hc : c ∈ TL.tl (nmS i)) : 48 ≤ c ∧ c ≤ 57 := by
  rw [nm_tl h] at hc
  exact TL.numL_digits _ c hc
theorem numL_head : ∀ n : Nat, 10 ≤ n → (TL.numL n).head? ≠ some 48 := fun n => by
  induction n using Nat.strongRecOn with
  | _ n ih =>
    intro h
    rw [TL.numL_step h]
    by_cases h2 : 10 ≤ n / 10
    · have := ih (n / 10) (by omega) h2
      rw [List.head?_append]
      cases q : (TL.numL (n / 10)).head? with
      | none => exact absurd (List.head?_eq_none_iff.mp q) (TL.numL_ne _)
      | some d => rw [q] at this; exact this
    · rw [TL.numL_lt (by omega)]
      show some (48 + n / 10) ≠ some 48
      intro e
      have := Option.some.inj e
      omega
theorem nm_read {i : Int} (h : 0 ≤ i ∧ i ≤ 1000000000) : numO (nmS i) 1000000000 = some i := by
  have h1 := nm_len h
  have h2 := nm_pos h.1
  have ha : allB (nmS i) fgS = true := List.all_eq_true.mpr fun c hc => decide_eq_true (by
    have := nm_signs h.1 hc
    rw [fg_is]
    simp
    omega)
  have hv : valS (nmS i) = i := by
    unfold valS
    rw [nm_tl h.1, TL.numL_val, Int.toNat_of_nonneg h.1]
  unfold numO
  rw [if_neg (by simp [ha]; omega), hv, if_neg]
  rintro (⟨h3, h4⟩ | h3)
  · rw [nm_tl h.1] at h3
    rw [TL.len_tl, nm_tl h.1] at h4
    by_cases h5 : 10 ≤ i.toNat
    · exact numL_head _ h5 h3
    · rw [TL.numL_lt (by omega)] at h4
      simp at h4
  · omega
theorem dot_tl : TL.tl "." = [46] := by decide +kernel
theorem seqO_map {α β : Type} (f : α → Option β) (g : α → β) : ∀ l : List α, (∀ x ∈ l, f x = some (g x)) → seqO (l.map f) = some (l.map g)
  | [], _ => rfl
  | x :: l, h => by
    rw [List.map_cons, h x List.mem_cons_self, seqO, seqO_map f g l fun y hy => h y (List.mem_cons_of_mem _ hy)]
    rfl
theorem mk_read {m : List Int} (h : MkW m) : mkO (mkT m) = some m := by
  have e : Txt.split (mkT m) "." = m.map nmS := TL.split_join (y := ".") dot_tl (by decide +kernel) (fun e => h.ne (List.map_eq_nil_iff.mp e)) fun w hw hc => by
    obtain ⟨i, hi, rfl⟩ := List.mem_map.mp hw
    have := nm_signs (h.num i hi).1 hc
    omega
  unfold mkO
  rw [e, List.length_map, if_neg (by have := h.len; omega), List.map_map]
  have := seqO_map ((fun x => numO x 1000000000) ∘ nmS) id m fun i hi => nm_read (h.num i hi)
  rw [List.map_id] at this
  exact this
theorem mk_signs {m : List Int} (h : MkW m) {c : Nat} (hc : c ∈ TL.tl (mkT m)) : c = 46 ∨ (48 ≤ c ∧ c ≤ 57) := by
  unfold mkT at hc
  rw [TL.join_eq, TL.tl_join, dot_tl] at hc
  rcases mem_joinL hc with hc | ⟨q, hq, hc⟩
  · exact .inl (List.mem_singleton.mp hc)
  · obtain ⟨w, hw, rfl⟩ := List.mem_map.mp hq
    obtain ⟨i, hi, rfl⟩ := List.mem_map.mp hw
    exact .inr (nm_signs (h.num i hi).1 hc)
theorem mk_len {m : List Int} (h : MkW m) : (mkT m).length ≤ 40 := by
  unfold mkT
  rw [TL.join_eq]
  have h1 := StrLaws.join_length_le "." (m.map nmS)
  have h2 := sum_le8 (ws := m.map nmS) (n := 10) fun w hw => by
    obtain ⟨i, hi, rfl⟩ := List.mem_map.mp hw
    exact nm_len (h.num i hi)
  rw [dot1] at h1
  rw [List.length_map] at h1 h2
  have := h.len
  omega
theorem mixed_is (c k : Int) : ∃ m : Nat, m < 2147483647 ∧ S_k62._law_mixed [.int c, .int k] = some (.ok (.fro (.int m))) := by
  have b1 := Int.emod_nonneg ((c % 2147483647 + 7919 * k + 1) * 48271) (b := 2147483647) (by omega)
  have b2 := Int.emod_lt_of_pos ((c % 2147483647 + 7919 * k + 1) * 48271) (b := 2147483647) (by omega)
  generalize h : (c % 2147483647 + 7919 * k + 1) * 48271 % 2147483647 = x at b1 b2
  have b3 := Int.emod_nonneg (x * (x / 1009 + 69621)) (b := 2147483647) (by omega)
  have b4 := Int.emod_lt_of_pos (x * (x / 1009 + 69621)) (b := 2147483647) (by omega)
  refine ⟨(x * (x / 1009 + 69621) % 2147483647).toNat, by omega, ?_⟩
  rw [Int.toNat_of_nonneg b3]
  have m1 : mulD (.int x) (.int (x / 1009 + 69621)) = some (.int (x * (x / 1009 + 69621))) := mul_int (.inl (by omega))
  simp [S_k62._law_mixed, S_k62._law_mixed_b, h, m1]
/-! ### what is drawn, sign by sign -/
def Sml (w : Str) : Prop := ∀ c ∈ TL.tl w, 97 ≤ c ∧ c ≤ 122
theorem at_mem {z : Str} {i : Int} (hz : z.length ≤ 16777216) (h : 0 ≤ i ∧ i < z.length) : ∃ x : Str, x.length = 1 ∧ (∀ c ∈ TL.tl x, c ∈ TL.tl z) ∧ subD' (.str z) (.int i) = some (.str x) := by
  rw [ix_str _ hz]
  obtain ⟨n, rfl⟩ := Int.eq_ofNat_of_zero_le h.1
  have hn : n < z.cps.toList.length := by
    rw [Array.length_toList]
    have : n < z.cps.size := by
      have h2 : (n : Int) < ((z.cps.size : Nat) : Int) := h.2
      omega
    exact this
  have e : atI z.cps.toList ((n : Nat) : Int) = some z.cps.toList[n] := by rw [atI_nat, List.getElem?_eq_getElem hn]
  rw [e]
  refine ⟨⟨#[z.cps.toList[n]]⟩, by rfl, fun c hc => ?_, rfl⟩
  have : c = z.cps.toList[n] := List.mem_singleton.mp hc
  rw [this]
  exact List.getElem_mem hn
theorem sm_len : smS.length = 26 := by decide +kernel
theorem small_in {i : Int} (h : 0 ≤ i ∧ i < 26) : ∃ x : Str, x.length = 1 ∧ Sml x ∧ subD' (.str "abcdefghijklmnopqrstuvwxyz") (.int i) = some (.str x) := by
  obtain ⟨x, h1, h2, h3⟩ := at_mem (z := smS) (i := i) (by rw [sm_len]; decide) (by rw [sm_len]; exact h)
  refine ⟨x, h1, fun c hc => ?_, h3⟩
  have := h2 c hc
  rw [sm_is] at this
  simp at this
  omega
theorem join0_mem {ss : List Str} {c : Nat} (h : c ∈ TL.tl (Txt.join "" ss)) : ∃ s ∈ ss, c ∈ TL.tl s := by
  rw [TL.join_eq, TL.tl_join] at h
  have e : TL.tl "" = [] := by decide +kernel
  rw [e] at h
  rcases mem_joinL h with h | ⟨p, hp, h⟩
  · cases h
  · obtain ⟨s, hs, rfl⟩ := List.mem_map.mp hp
    exact ⟨s, hs, h⟩
theorem join0_len : ∀ {ss : List Str}, (∀ s ∈ ss, s.length = 1) → (Txt.join "" ss).length = ss.length := fun {ss} h => by
  rw [TL.join_eq]
  cases ss with
  | nil => rfl
  | cons a l =>
    have e : ("" : Str).length = 0 := rfl
    rw [PyProof.Rows.len_join_cons, e, Nat.mul_zero, Nat.add_zero]
    exact sum_ones h
theorem cut_mem {w : Str} {lo hi : Option Int} {c : Nat} (h : c ∈ TL.tl (cutS w lo hi)) : c ∈ TL.tl w := by
  unfold cutS at h
  exact List.mem_of_mem_drop (List.mem_of_mem_take h)
theorem cut_parts {w : Str} {i : Int} (h : 0 ≤ i) : (cutS w none (some i)).length + (cutS w (some i) none).length = w.length := by
  have e1 := SX.slice_to (a := TL.tl w) h
  have e2 := SX.slice_from (a := TL.tl w) h
  rw [show SX.S (TL.tl w) = w from TL.mk_tl w, ← C8.cutS_slice] at e1 e2
  rw [e1, e2, TL.len_tl w, SX.S_len, SX.S_len, List.length_take, List.length_drop]
  omega
theorem lineB_is (n : Int) : ∃ w : Str, lineB w = true ∧ S_k62._law_line [.int n] = some (.ok (.fro (.str w))) := by
  have hA : addD (.str " !\"#$&'()*+,-./0123456789:;<=>?@ABCDEFGHIJKLMNOPQRSTUVWXYZ[\\]^_`") (.str "abcdefghijklmnopqrstuvwxyz{|}~") = some (.str (" !\"#$&'()*+,-./0123456789:;<=>?@ABCDEFGHIJKLMNOPQRSTUVWXYZ[\\]^_`" ++ "abcdefghijklmnopqrstuvwxyz{|}~")) := add_str (by rw [size_is]; decide +kernel)
  have hE : ((" !\"#$&'()*+,-./0123456789:;<=>?@ABCDEFGHIJKLMNOPQRSTUVWXYZ[\\]^_`" : Str) ++ "abcdefghijklmnopqrstuvwxyz{|}~") = sgS := TL.ext_tl (by decide +kernel)
  have hL : sgS.length = 94 := by decide +kernel
  rw [hE] at hA
  generalize hb : sgS = big at hA hL
  have lb : lenD [.str big] = some (.int big.length) := len_str (by omega)
  have m0 : (0 : Int) < (big.length : Int) := by omega
  obtain ⟨ss, q1, q2, q3⟩ := lcGo_strsP (P := fun s => s.length = 1 ∧ ∀ c ∈ TL.tl s, c ∈ TL.tl big) (h := hName 3) (f := (bin subD' (rd 1) (bin modD (bin divD (rd 0) (bin addD (kD (.int 5)) (bin mulX (kD (.int 11)) (rd 3)))) (app lenD (consA (rd 1) nilA))))) (ρ := [some (.fro (.int n)), some (.fro (.str big)), some (.fro (.int (n % 5))), none]) (rng 0 (n % 5).toNat) fun d hd => by
    obtain ⟨i, hi, rfl⟩ := mem_rng hd
    have d1 : (0 : Int) < 5 + 11 * (0 + (i : Int)) ∧ 5 + 11 * (0 + (i : Int)) < 1073741824 := by
      have : (n % 5).toNat < 5 := by omega
      omega
    obtain ⟨y, ly, sy, ey⟩ := at_mem (z := big) (i := (n / (5 + 11 * (0 + (i : Int)))) % (big.length : Int)) (by omega) ⟨Int.emod_nonneg _ (by omega), Int.emod_lt_of_pos _ m0⟩
    have hm : modD (.int (n / (5 + 11 * (0 + (i : Int))))) (.int (big.length : Int)) = some (.int ((n / (5 + 11 * (0 + (i : Int)))) % (big.length : Int))) := mod_int m0
    refine ⟨_, y, rfl, ?_, ly, sy⟩
    generalize 0 + (i : Int) = i' at ey d1 hm ⊢
    simp [d1, lb, hm, ey]
  rw [rng_len] at q2
  have q3' : ∀ s ∈ ss, s.length = 1 := fun s hs => (q3 s hs).1
  have hs := sum_ones q3'
  have r : r1 [.int (n % 5)] = some (rng 0 (n % 5).toNat) := r1_int (by omega)
  have ej : joinD (.str "") (.lst (txs ss)) = some (.str (Txt.join "" ss)) := join_txs (by rw [hs]; have : ("" : Str).length = 0 := rfl; rw [this]; omega)
  have lj : (Txt.join "" ss).length ≤ 60 := by rw [join0_len q3']; omega
  have ll : (rng 0 (n % 5).toNat).length ≤ 16777216 := by rw [rng_len]; omega
  refine ⟨Txt.join "" ss, ?_, ?_⟩
  · unfold lineB
    rw [Bool.and_eq_true]
    refine ⟨decide_eq_true lj, List.all_eq_true.mpr fun c hc => decide_eq_true ?_⟩
    obtain ⟨s, hs, hc⟩ := join0_mem hc
    rw [hb]
    exact (q3 s hs).2 c hc
  · simp [S_k62._law_line, S_k62._law_line_b, hA, r, ll, wipeR, q1, ej]
/-! lines of one's own -/
theorem lcGoO_strsP {P : Str → Prop} {h : Dat → Rho → Option Rho} {f : Rho → Option SV} {ρ : Rho} : ∀ (ds : List Dat), (∀ d ∈ ds, ∃ ρ1 s, h d ρ = some ρ1 ∧ f ρ1 = some (.fro (.str s)) ∧ P s) → ∃ ss : List Str, lcGoO h yes f ρ ds = some ((txs ss).map SV.fro) ∧ ss.length = ds.length ∧ ∀ s ∈ ss, P s
  | [], _ => ⟨[], rfl, rfl, fun _ h => by cases h⟩
  | d :: ds, H => by
    obtain ⟨ρ1, s, e1, e2, e3⟩ := H d List.mem_cons_self
    obtain ⟨ss, q1, q2, q3⟩ := lcGoO_strsP ds fun y hy => H y (List.mem_cons_of_mem _ hy)
    refine ⟨s :: ss, ?_, by rw [List.length_cons, List.length_cons, q2], fun x hx => ?_⟩
    · rw [lcGoO, e1, Option.bind_some]
      show (some true).bind _ = _
      rw [Option.bind_some, if_pos rfl, e2, q1]
      rfl
    · rcases List.mem_cons.mp hx with rfl | hx
      · exact e3
      · exact q3 x hx
theorem linesO_is (n : Nat) : ∃ ls : List Str, (ls.length ≤ 4 ∧ ∀ x ∈ ls, lineB x = true) ∧ S_k62._law_lines [.int n] = some (.ok (.ol ((txs ls).map SV.fro))) := by
  have d0 : (0 : Int) < 40 + 900 * ((n : Int) % 3) := by omega
  obtain ⟨ss, q1, q2, q3⟩ := lcGoO_strsP (P := fun x => lineB x = true) (h := hName 2) (f := (callS S_k62._law_line (consA (bin modD (frzS (callS S_k62._law_mixed (consA (bin divD (rd 0) (kD (.int 5))) (consA (rd 2) nilA)))) (rd 1)) nilA))) (ρ := [some (.fro (.int n)), some (.fro (.int (40 + 900 * ((n : Int) % 3)))), none]) (rng 0 (n % 5)) fun d hd => by
    obtain ⟨i, hi, rfl⟩ := mem_rng hd
    generalize 0 + (i : Int) = i'
    obtain ⟨m, _, hm⟩ := mixed_is ((n : Int) / 5) i'
    obtain ⟨w, lw, hw⟩ := lineB_is ((m : Int) % (40 + 900 * ((n : Int) % 3)))
    refine ⟨_, w, rfl, ?_, lw⟩
    simp [hm, frz, d0, hw]
  rw [rng_len] at q2
  have r : r1 [.int ((n : Int) % 5)] = some (rng 0 (n % 5)) := r1_nat (n := n % 5) (by omega)
  have ll : (rng 0 (n % 5)).length ≤ 16777216 := by rw [rng_len]; omega
  refine ⟨ss, ⟨by omega, q3⟩, ?_⟩
  simp [S_k62._law_lines, S_k62._law_lines_b, r, ll, wipeR, q1]
theorem slash_join (x y : Str) : (x ++ "/" ++ y : Str) = Txt.join "/" [x, y] := TL.ext_tl (by
  rw [TL.join_eq, TL.tl_join, TL.tl_append, TL.tl_append, slash_tl, List.append_assoc]
  rfl)
theorem pathB_is (n : Nat) : ∃ p : Str, pathB p = true ∧ S_k62._law_path [.int n] = some (.ok (.fro (.str p))) := by
  obtain ⟨x, lx, sx, ex⟩ := small_in (i := ((n : Int) / 5) % 26) (by omega)
  obtain ⟨y, ly, sy, ey⟩ := small_in (i := ((n : Int) / 130) % 26) (by omega)
  have a1 : addD (.str x) (.str "/") = some (.str (x ++ "/")) := add_str (by rw [size_is, slash1]; omega)
  have a2 : addD (.str (x ++ "/")) (.str y) = some (.str (x ++ "/" ++ y)) := add_str (by rw [size_is, len_app, slash1]; omega)
  by_cases h4 : (n : Int) % 5 = 4
  · refine ⟨x ++ "/" ++ y, ?_, ?_⟩
    · rw [slash_join]
      refine path_join (by simp) (by simp) fun w hw => ?_
      simp only [List.mem_cons, List.not_mem_nil, or_false] at hw
      rcases hw with rfl | rfl
      · exact name_of (by omega) sx
      · exact name_of (by omega) sy
    · simp [S_k62._law_path, S_k62._law_path_b, h4, ex, ey, a1, a2]
  · have h : (n : Int) % 5 = 0 ∨ (n : Int) % 5 = 1 ∨ (n : Int) % 5 = 2 ∨ (n : Int) % 5 = 3 := by omega
    rcases h with h | h | h | h
    · exact ⟨"a", by decide +kernel, by simp [S_k62._law_path, S_k62._law_path_b, h]⟩
    · exact ⟨"a/b", by decide +kernel, by simp [S_k62._law_path, S_k62._law_path_b, h]⟩
    · exact ⟨"conf/ed/three/four", by decide +kernel, by simp [S_k62._law_path, S_k62._law_path_b, h]⟩
    · exact ⟨"zz", by decide +kernel, by simp [S_k62._law_path, S_k62._law_path_b, h]⟩
end
end Pq

namespace Pq
open PySem PySem.Spec PyProof.Rows L2
noncomputable section
/-! ### two tables, alike -/
theorem hits_same (be : Tb) : ∀ {al : Tb}, (∀ p ∈ al, getA be p.1 = some p.2) → (∀ p ∈ al, pl p.2 = true) → hitsD (be.map (·.1)) (be.map (·.2)) (al.map (·.1)) (al.map (·.2)) = true
  | [], _, _ => by rw [List.map_nil, List.map_nil, hitsD]; intro k ks x xs h; cases h
  | p :: al, h, hp => by
    rw [List.map_cons, List.map_cons, hitsD, look_A, h p List.mem_cons_self]
    simp only
    rw [PySem.SeqAt.eqv_refl_plain _ (py_plain _ (hp p List.mem_cons_self)), hits_same be (fun q hq => h q (List.mem_cons_of_mem _ hq)) (fun q hq => hp q (List.mem_cons_of_mem _ hq))]
    rfl
theorem dct_same {al be : Tb} (hl : al.length = be.length) (h : ∀ p ∈ al, getA be p.1 = some p.2) (ha : ∀ p ∈ al, pl p.2 = true ∧ (py p.2).depth ≤ 50) (hb : ∀ p ∈ be, pl p.2 = true) : neX (dD al) (dD be) = some (.bl false) := by
  have c : okDct (al.map (·.2)) (be.map (·.2)) := by
    refine ⟨fun x hx => ?_, fun y hy => ?_⟩
    · obtain ⟨p, hp, rfl⟩ := List.mem_map.mp hx
      exact ha p hp
    · obtain ⟨p, hp, rfl⟩ := List.mem_map.mp hy
      exact hb p hp
  show @ite _ (okDct _ _) (Classical.propDecidable _) _ _ = _
  rw [ifp c]
  have e : dctEq (al.map (·.1)) (al.map (·.2)) (be.map (·.1)) (be.map (·.2)) = true := by
    unfold dctEq
    rw [hits_same be h (fun p hp => (ha p hp).1), List.length_map, List.length_map, hl]
    simp
  rw [e]
  rfl
theorem dct_alike {al be : Tb} (hl : al.length = be.length) (h : ∀ p ∈ al, getA be p.1 = some p.2) (ha : ∀ p ∈ al, pl p.2 = true ∧ (py p.2).depth ≤ 50) (hb : ∀ p ∈ be, pl p.2 = true) : eqX (dD al) (dD be) = some (.bl true) := by
  have c : okDct (al.map (·.2)) (be.map (·.2)) := by
    refine ⟨fun x hx => ?_, fun y hy => ?_⟩
    · obtain ⟨p, hp, rfl⟩ := List.mem_map.mp hx
      exact ha p hp
    · obtain ⟨p, hp, rfl⟩ := List.mem_map.mp hy
      exact hb p hp
  show @ite _ (okDct _ _) (Classical.propDecidable _) _ _ = _
  rw [ifp c]
  have e : dctEq (al.map (·.1)) (al.map (·.2)) (be.map (·.1)) (be.map (·.2)) = true := by
    unfold dctEq
    rw [hits_same be h (fun p hp => (ha p hp).1), List.length_map, List.length_map, hl]
    simp
  rw [e]
/-! disks told alike -/
theorem pl_txs : ∀ ls : List Str, pls (txs ls) = true
  | [] => by rw [txs_nil, pls]
  | x :: ls => by rw [txs_cons, pls, pl, pl_txs ls]; rfl
theorem dep_txs : ∀ ls : List Str, PyData.depthAll (pys (txs ls)) ≤ 1
  | [] => by rw [txs_nil, pys, PyData.depthAll]; omega
  | x :: ls => by
    rw [txs_cons, pys, py, PyData.depthAll, PyData.depth]
    have := dep_txs ls
    omega
theorem pl_lines (ls : List Str) : pl (.lst (txs ls)) = true ∧ (py (.lst (txs ls))).depth ≤ 40 := ⟨by rw [pl]; exact pl_txs ls, by rw [py, PyData.depth]; have := dep_txs ls; omega⟩
theorem vis_same {P P' : List Fl} (hl : P.length = P'.length) (nd : (P'.map Fl.path).Nodup) (h : ∀ x ∈ P, ∃ y ∈ P', y.path = x.path ∧ y.lines = x.lines) : neX (dD (Fl.vis P)) (dD (Fl.vis P')) = some (.bl false) ∧ eqX (dD (Fl.vis P)) (dD (Fl.vis P')) = some (.bl true) := by
  have pv : ∀ {L : List Fl} (p : Key × Dat), p ∈ Fl.vis L → ∃ a ∈ L, p = (.inr a.path, .lst (txs a.lines)) := fun {L} p hp => by
    obtain ⟨a, ha, rfl⟩ := List.mem_map.mp hp
    exact ⟨a, ha, rfl⟩
  have h1 : (Fl.vis P).length = (Fl.vis P').length := by
    unfold Fl.vis tabT
    rw [List.length_map, List.length_map, hl]
  have h2 : ∀ p ∈ Fl.vis P, getA (Fl.vis P') p.1 = some p.2 := fun p hp => by
    obtain ⟨a, ha, rfl⟩ := pv p hp
    obtain ⟨y, hy, e1, e2⟩ := h a ha
    have := tab_get (v := fun x : Fl => Dat.lst (txs x.lines)) nd hy
    rw [e1, e2] at this
    exact this
  have h3 : ∀ p ∈ Fl.vis P, pl p.2 = true ∧ (py p.2).depth ≤ 50 := fun p hp => by
    obtain ⟨a, _, rfl⟩ := pv p hp
    obtain ⟨q1, q2⟩ := pl_lines a.lines
    exact ⟨q1, Nat.le_trans q2 (by decide)⟩
  have h4 : ∀ p ∈ Fl.vis P', pl p.2 = true := fun p hp => by
    obtain ⟨a, _, rfl⟩ := pv p hp
    exact (pl_lines a.lines).1
  exact ⟨dct_same h1 h2 h3 h4, dct_alike h1 h2 h3 h4⟩
theorem vis_self {P : List Fl} (nd : (P.map Fl.path).Nodup) : neX (dD (Fl.vis P)) (dD (Fl.vis P)) = some (.bl false) ∧ eqX (dD (Fl.vis P)) (dD (Fl.vis P)) = some (.bl true) := vis_same rfl nd fun x hx => ⟨x, hx, rfl, rfl⟩
theorem rows_eqbs : ∀ R R' : List (Str × Str), eqbs (rowsD R) (rowsD R') = decide (R = R')
  | [], [] => by simp [rowsD, eqbs]
  | [], _ :: _ => by simp [rowsD, eqbs]
  | _ :: _, [] => by simp [rowsD, eqbs]
  | (a, b) :: R, (a', b') :: R' => by
    have ih := rows_eqbs R R'
    unfold rowsD at ih ⊢
    rw [List.map_cons, List.map_cons, eqbs, ih, eqb, eqbs, eqbs, eqbs, eqb, eqb]
    rw [Bool.eq_iff_iff]
    simp
theorem rows_dps : ∀ R : List (Str × Str), dps (rowsD R) ≤ 1
  | [] => by simp [rowsD, dps]
  | (a, b) :: R => by
    have ih := rows_dps R
    unfold rowsD at ih ⊢
    rw [List.map_cons, dps, dp, dps, dps, dps, dp, dp]
    omega
theorem rows_cpts : ∀ R R' : List (Str × Str), cpts (rowsD R) (rowsD R') = true
  | [], [] => by simp [rowsD, cpts]
  | [], _ :: _ => by simp [rowsD, cpts]
  | _ :: _, [] => by simp [rowsD, cpts]
  | (a, b) :: R, (a', b') :: R' => by
    have ih := rows_cpts R R'
    unfold rowsD at ih ⊢
    simp only [List.map_cons]
    simp [cpts, cpt, ih]
theorem rows_eq (R R' : List (Str × Str)) : eqX (.lst (rowsD R)) (.lst (rowsD R')) = some (.bl (decide (R = R'))) ∧ neX (.lst (rowsD R)) (.lst (rowsD R')) = some (.bl (!decide (R = R'))) := by
  have c : dp (.lst (rowsD R)) ≤ 50 ∧ cpt (.lst (rowsD R)) (.lst (rowsD R')) = true := ⟨by rw [dp]; have := rows_dps R; omega, by rw [cpt]; exact rows_cpts R R'⟩
  rw [eqX_lst, neX_lst]
  unfold eqD neD
  have c' : (decide (dp (.lst (rowsD R)) ≤ 50) && cpt (.lst (rowsD R)) (.lst (rowsD R'))) = true := by rw [decide_eq_true c.1, c.2]; rfl
  rw [if_pos c', if_pos c', eqb, rows_eqbs]
  exact ⟨rfl, rfl⟩
theorem tfvs_W : ∀ T : Tb, (∀ p ∈ T, tfv (ownV p.2) = true) → tfvs ((T.map (·.2)).map ownV) = true
  | [], _ => rfl
  | p :: T, h => by
    rw [List.map_cons, List.map_cons, tfvs, h p List.mem_cons_self, tfvs_W T fun q hq => h q (List.mem_cons_of_mem _ hq)]
    rfl
theorem tfv_vis (P : List Fl) : tfv (oW (Fl.vis P)) = true := by
  unfold oW
  rw [tfv]
  refine tfvs_W _ fun p hp => ?_
  obtain ⟨a, _, rfl⟩ := List.mem_map.mp hp
  exact tfv_txs a.lines
theorem tfls_rows : ∀ R : List (Str × Str), tfls (rowsD R) = true
  | [] => rfl
  | x :: R => by
    show (tfl (.tup [.str x.1, .str x.2]) && tfls (rowsD R)) = true
    rw [tfls_rows R]
    rfl
theorem tfv_rows (R : List (Str × Str)) : tfv (.ol ((rowsD R).map SV.fro)) = true := by rw [tfv, tfvs_fro, tfls_rows]
section
variable {z : Sto} {b k r : Nat} {P : List Fl} {R : List (Str × Str)} {l : Option Nat}
theorem now_is (h : DA z b k r P R l) (hP : P.length < 900) : snpZ S.Disk_files_now z [.cel b] = some (.ok z (dD (Fl.vis P))) := by
  rw [snp_is (sns_cons (sn_disk h) sns_nil) (files_now_is h.nd hP R l) (tfv_vis P), frz_oW]
theorem book_is (h : DA z b k r P R l) : snpZ S.Disk_book_now z [.cel b] = some (.ok z (.lst (rowsD R))) := by
  rw [snp_is (sns_cons (sn_disk h) sns_nil) (book_now_is P R l) (tfv_rows R), frz, frzs_fro]
theorem lst_vis (P : List Fl) : Lsts (Fl.vis P) := fun p hp => by
  obtain ⟨a, _, rfl⟩ := List.mem_map.mp hp
  exact ⟨txs a.lines, rfl, ncls_txs _⟩
theorem nowC_is (h : DA z b k r P R l) (hP : P.length < 900) : snpC S.Disk_files_now z [.cel b] = some (.ok (z ++ ((Fl.vis P).map fun p => Cel.lst (lsD p.2)) ++ [dctA (celT z.length (Fl.vis P))]) (.cel (z.length + (Fl.vis P).length))) := by
  unfold snpC
  rw [sns_cons (sn_disk h) sns_nil, Option.bind_some, files_now_is h.nd hP R l]
  simp only
  rw [if_pos (tfv_vis P), alo_W _ _ (lst_vis P)]
theorem bookC_is (h : DA z b k r P R l) : snpC S.Disk_book_now z [.cel b] = some (.ok (z ++ [.lst (rowsD R)]) (.cel z.length)) := by
  unfold snpC
  rw [sns_cons (sn_disk h) sns_nil, Option.bind_some, book_now_is P R l]
  simp only
  rw [if_pos (tfv_rows R), alo_ol, alos_fro]
end
end
end Pq

namespace Pq
open PySem PySem.Spec PyProof.Rows L2
noncomputable section
/-! ### texts in order -/
theorem leY_str (a b : Str) : leY (.str a) (.str b) = strLe a b := by
  unfold leY strLe
  rw [py, py, PySem.W.dataLt_str]
  congr 1
  exact (PyProof.Rows.ltCps_eq _ _).symm
theorem sortQ_txs {ls : List Str} (hl : ls.length < 2000) : sortQ [.lst (txs ls)] = some (.lst (txs (ls.mergeSort strLe))) := by
  have e : (txs ls).mergeSort leY = txs (ls.mergeSort strLe) := (List.map_mergeSort (r := strLe) (s := leY) (f := Dat.str) fun a _ b _ => (leY_str a b).symm).symm
  by_cases h : srtQ (txs ls)
  · rw [sortQ_flt h, e]
  · have c : srtP (txs ls) := by
      refine ⟨fun d hd => ?_, ?_, ?_, by rw [txs_len, size_is]; omega⟩
      · obtain ⟨a, _, rfl⟩ := List.mem_map.mp hd
        refine ⟨by rw [pl], ?_⟩
        rw [py, PyData.depth]
        omega
      · unfold txs
        rw [List.map_map]
        refine PySem.W.AllAlike.of fun a b => ?_
        show PySem.W.alike (py (.str a)) (py (.str b)) = true
        rw [py, py]
        simp only [PySem.W.alike]
      · unfold txs
        rw [List.map_map]
        refine PySem.W.Sortable.others fun a => ?_
        show py (.str a) ≠ PyData.none ∧ ∀ xs, py (.str a) ≠ PyData.tuple xs
        rw [py]
        exact ⟨(fun z => nomatch z), (fun xs z => nomatch z)⟩
    have e1 : sortQ [.lst (txs ls)] = @ite _ (srtQ (txs ls)) (Classical.propDecidable _) (some (.lst ((txs ls).mergeSort leY))) (sortDct [.lst (txs ls)]) := rfl
    rw [e1, @if_neg _ (Classical.propDecidable _) h]
    have e2 : sortDct [.lst (txs ls)] = @ite _ (srtP (txs ls)) (Classical.propDecidable _) (some (.lst ((txs ls).mergeSort leY))) none := rfl
    rw [e2, ifp c, e]
/-! ### a disk's files by their paths -/
def lin (P : List Fl) (p : Str) : Option (List Str) := (P.find? fun x => decide (x.path = p)).map Fl.lines
theorem lin_nil (p : Str) : lin [] p = none := rfl
theorem lin_cons (x : Fl) (P : List Fl) (p : Str) : lin (x :: P) p = if x.path = p then some x.lines else lin P p := by
  unfold lin
  rw [List.find?_cons]
  by_cases h : x.path = p
  · rw [if_pos h, decide_eq_true h]
    rfl
  · rw [if_neg h, decide_eq_false h]
theorem lin_app (x : Fl) (p : Str) : ∀ P : List Fl, x.path ∉ P.map Fl.path → lin (P ++ [x]) p = if p = x.path then some x.lines else lin P p
  | [], _ => by
    rw [List.nil_append, lin_cons]
    by_cases h : x.path = p
    · rw [if_pos h, if_pos h.symm]
    · rw [if_neg h, if_neg fun z => h z.symm]
  | y :: P, hn => by
    rw [List.map_cons, List.mem_cons, not_or] at hn
    rw [List.cons_append, lin_cons, lin_cons, lin_app x p P hn.2]
    by_cases h : y.path = p
    · rw [if_pos h, if_pos h, if_neg fun z => hn.1 (by rw [h, z])]
    · rw [if_neg h, if_neg h]
theorem lin_map (x : Fl) (p : Str) : ∀ P : List Fl, lin (P.map fun b => if b.path = x.path then x else b) p = if p = x.path ∧ x.path ∈ P.map Fl.path then some x.lines else lin P p
  | [] => by simp [lin_nil]
  | y :: P => by
    rw [List.map_cons, lin_cons, lin_cons, lin_map x p P]
    by_cases h : y.path = x.path
    · rw [if_pos h]
      by_cases hp : x.path = p
      · rw [if_pos hp, if_pos ⟨hp.symm, by rw [List.map_cons, h]; exact List.mem_cons_self⟩]
      · rw [if_neg hp, if_neg fun z => hp z.1.symm, if_neg fun z => hp z.1.symm, if_neg fun z => hp (h ▸ z)]
    · rw [if_neg h]
      by_cases hp : y.path = p
      · rw [if_pos hp, if_pos hp, if_neg fun z => h (by rw [hp, z.1])]
      · rw [if_neg hp, if_neg hp]
        have : x.path ∈ (y :: P).map Fl.path ↔ x.path ∈ P.map Fl.path := by
          rw [List.map_cons, List.mem_cons]
          exact ⟨fun z => z.elim (fun z => absurd z.symm h) id, .inr⟩
        by_cases hq : p = x.path ∧ x.path ∈ P.map Fl.path
        · rw [if_pos hq, if_pos ⟨hq.1, this.mpr hq.2⟩]
        · rw [if_neg hq, if_neg fun z => hq ⟨z.1, this.mp z.2⟩]
theorem lin_put (x : Fl) (P : List Fl) (p : Str) : lin (putK Fl.path x P) p = if p = x.path then some x.lines else lin P p := by
  unfold putK
  by_cases h : x.path ∈ P.map Fl.path
  · rw [if_pos h, lin_map]
    by_cases hp : p = x.path
    · rw [if_pos hp, if_pos ⟨hp, h⟩]
    · rw [if_neg hp, if_neg fun z => hp z.1]
  · rw [if_neg h, lin_app x p P h]
theorem lin_out (q p : Str) : ∀ P : List Fl, lin (outK Fl.path q P) p = if p = q then none else lin P p
  | [] => by
    show lin [] p = _
    rw [lin_nil]
    split <;> rfl
  | y :: P => by
    have ih := lin_out q p P
    unfold outK at ih ⊢
    rw [List.filter_cons]
    by_cases h : y.path = q
    · rw [if_neg (by simp [h]), ih, lin_cons]
      by_cases hp : p = q
      · rw [if_pos hp, if_pos hp]
      · rw [if_neg hp, if_neg hp, if_neg fun z => hp (by rw [← z, h])]
    · rw [if_pos (by simp [h]), lin_cons, ih, lin_cons]
      by_cases hp : y.path = p
      · rw [if_pos hp, if_pos hp, if_neg fun z => h (by rw [hp, z])]
      · rw [if_neg hp, if_neg hp]
theorem lin_has (p : Str) : ∀ P : List Fl, (lin P p).isSome = decide (p ∈ P.map Fl.path)
  | [] => by simp [lin_nil]
  | y :: P => by
    rw [lin_cons, List.map_cons]
    by_cases h : y.path = p
    · simp [h]
    · rw [if_neg h, lin_has p P]
      have : ¬ p = y.path := fun z => h z.symm
      simp [this]
theorem lin_in {P : List Fl} {p : Str} : p ∈ P.map Fl.path ↔ lin P p ≠ none := by
  have := lin_has p P
  cases h : lin P p with
  | none => rw [h] at this; simpa using this.symm
  | some ls => rw [h] at this; simpa using this.symm
theorem lin_mem : ∀ {P : List Fl}, (P.map Fl.path).Nodup → ∀ {x : Fl}, x ∈ P → lin P x.path = some x.lines
  | y :: P, nd, x, h => by
    rw [List.map_cons, List.nodup_cons] at nd
    rw [lin_cons]
    rcases List.mem_cons.mp h with rfl | h
    · rw [if_pos rfl]
    · rw [if_neg fun z : y.path = x.path => nd.1 (by rw [z]; exact List.mem_map_of_mem h), lin_mem nd.2 h]
theorem lin_some {P : List Fl} {p : Str} {ls : List Str} (h : lin P p = some ls) : ∃ x ∈ P, x.path = p ∧ x.lines = ls := by
  unfold lin at h
  obtain ⟨x, hx, e⟩ := Option.map_eq_some_iff.mp h
  exact ⟨x, List.mem_of_find?_eq_some hx, of_decide_eq_true (List.find?_some (p := fun x : Fl => decide (x.path = p)) hx), e⟩
theorem vis_lin (p : Str) : ∀ P : List Fl, getA (Fl.vis P) (.inr p) = (lin P p).map fun ls => .lst (txs ls)
  | [] => rfl
  | x :: P => by
    have ih := vis_lin p P
    show getA ((.inr x.path, .lst (txs x.lines)) :: Fl.vis P) _ = _
    rw [getA_cons, lin_cons, ih]
    by_cases h : x.path = p
    · rw [if_pos h, if_pos (by rw [h])]
      rfl
    · rw [if_neg h, if_neg fun z => h (Sum.inr.inj z)]
/-- two lots of files that say the same -/
theorem lin_len {P Q : List Fl} (nd : (P.map Fl.path).Nodup) (nd' : (Q.map Fl.path).Nodup) (h : ∀ p, lin P p = lin Q p) : P.length = Q.length := by
  have := (perm_mem nd nd' fun p => by rw [lin_in, lin_in, h]).length_eq
  rwa [List.length_map, List.length_map] at this
theorem vis_lins {P Q : List Fl} (nd : (P.map Fl.path).Nodup) (nd' : (Q.map Fl.path).Nodup) (h : ∀ p, lin P p = lin Q p) : neX (dD (Fl.vis P)) (dD (Fl.vis Q)) = some (.bl false) ∧ eqX (dD (Fl.vis P)) (dD (Fl.vis Q)) = some (.bl true) :=
  vis_same (lin_len nd nd' h) nd' fun x hx => lin_some (by rw [← h, lin_mem nd hx])
theorem dps_txs' : ∀ ls : List Str, dps (txs ls) = 0
  | [] => rfl
  | x :: ls => by rw [txs_cons, dps, dp, dps_txs' ls]; rfl
theorem ne_opt (a b : Option (List Str)) : neX ((a.map fun ls => Dat.lst (txs ls)).getD .non) ((b.map fun ls => Dat.lst (txs ls)).getD .non) = some (.bl (decide (a ≠ b))) := by
  cases a with
  | none => cases b with
    | none => rfl
    | some b => rfl
  | some a => cases b with
    | none =>
      show neX (.lst (txs a)) .non = _
      have c : (decide (dp (.lst (txs a)) ≤ 50) && cpt (.lst (txs a)) .non) = true := by
        rw [decide_eq_true (by rw [dp, dps_txs']; omega)]
        rfl
      rw [neX_lst]
      unfold neD
      rw [if_pos c]
      rfl
    | some b =>
      show neX (.lst (txs a)) (.lst (txs b)) = _
      rw [neX_lst, ne_txs]
      congr 2
      by_cases h : a = b
      · simp [h]
      · simp [h]
end
end Pq

namespace Pq
open PySem PySem.Spec PyProof.Rows L2
noncomputable section
/-! ### the paths that differ, in order -/
def dif (P Q : List Fl) (p : Str) : Bool := decide (lin P p ≠ lin Q p)
def addP (P Q : List Fl) : List Str := P.map Fl.path ++ (Q.map Fl.path).filter fun p => decide (p ∉ P.map Fl.path)
def allP (P Q : List Fl) : List Str := (addP P Q).mergeSort strLe
def difs (P Q : List Fl) : List Str := (allP P Q).filter (dif P Q)
theorem allP_mem {P Q : List Fl} {p : Str} : p ∈ allP P Q ↔ p ∈ P.map Fl.path ∨ p ∈ Q.map Fl.path := by
  unfold allP addP
  rw [(List.mergeSort_perm _ _).mem_iff, List.mem_append, List.mem_filter, decide_eq_true_iff]
  by_cases h : p ∈ P.map Fl.path
  · simp [h]
  · simp [h]
theorem addP_nd {P Q : List Fl} (n1 : (P.map Fl.path).Nodup) (n2 : (Q.map Fl.path).Nodup) : (addP P Q).Nodup := by
  unfold addP
  rw [List.nodup_append]
  exact ⟨n1, n2.filter _, fun a ha b hb e => by
    have := (List.mem_filter.mp hb).2
    rw [← e] at this
    exact of_decide_eq_true this ha⟩
theorem allP_nd {P Q : List Fl} (n1 : (P.map Fl.path).Nodup) (n2 : (Q.map Fl.path).Nodup) : (allP P Q).Nodup := (List.mergeSort_perm _ _).nodup_iff.mpr (addP_nd n1 n2)
theorem allP_len (P Q : List Fl) : (allP P Q).length ≤ P.length + Q.length := by
  unfold allP addP
  rw [List.length_mergeSort, List.length_append, List.length_map]
  have := List.length_filter_le (fun p => decide (p ∉ P.map Fl.path)) (Q.map Fl.path)
  rw [List.length_map] at this
  omega
theorem difs_mem {P Q : List Fl} {p : Str} : p ∈ difs P Q ↔ lin P p ≠ lin Q p := by
  unfold difs dif
  rw [List.mem_filter, decide_eq_true_iff, allP_mem, lin_in, lin_in]
  constructor
  · exact fun h => h.2
  · intro h
    refine ⟨?_, h⟩
    cases e : lin P p with
    | none => exact .inr fun z => h (by rw [e, z])
    | some ls => exact .inl fun z => by cases z
theorem difs_nd {P Q : List Fl} (n1 : (P.map Fl.path).Nodup) (n2 : (Q.map Fl.path).Nodup) : (difs P Q).Nodup := (allP_nd n1 n2).filter _
theorem difs_len (P Q : List Fl) : (difs P Q).length ≤ P.length + Q.length := Nat.le_trans (List.length_filter_le _ _) (allP_len P Q)
/-! how far so many writes go -/
def falls (l : Option Nat) (n : Nat) : Bool := match l with
  | none => false
  | some m => decide (m < n)
def after (l : Option Nat) (n : Nat) : Option Nat := l.map fun m => m - n
def goes (l : Option Nat) (W : List Str) : List Str := match l with
  | none => W
  | some m => W.take m
theorem falls_0 (l : Option Nat) : falls l 0 = false := by cases l <;> simp [falls]
theorem after_0 (l : Option Nat) : after l 0 = l := by cases l <;> simp [after]
theorem goes_nil (l : Option Nat) : goes l [] = [] := by cases l <;> simp [goes]
theorem falls_1 {l : Option Nat} (h : l ≠ some 0) (n : Nat) : falls l (n + 1) = falls (pred1 l) n := by
  match l, h with
  | none, _ => rfl
  | some (m + 1), _ => simp [falls, pred1]
theorem after_1 (l : Option Nat) (n : Nat) : after l (n + 1) = after (pred1 l) n := by
  match l with
  | none => rfl
  | some m => simp only [after, pred1, Option.map_some]; congr 1; omega
theorem goes_1 {l : Option Nat} (h : l ≠ some 0) (p : Str) (W : List Str) : goes l (p :: W) = p :: goes (pred1 l) W := by
  match l, h with
  | none, _ => rfl
  | some (m + 1), _ => simp [goes, pred1]
/-! ### made the files of a tree -/
def turnB : Sto → Rho → RZ := (ifZ (lif fun _ => (tst (bin ninX (rd 3) (rd 1)))) (drpZ (methZ "Disk" "erase" S.Disk_erase (lif fun _ => (rd 0)) (consZ (lif fun _ => (rd 3)) nilZ))) (ifZ (lif fun _ => (or2 (tst (bin ninX (rd 3) (rd 2))) (tst (bin neX (bin subD' (rd 2) (rd 3)) (bin subD' (rd 1) (rd 3)))))) (drpZ (methZ "Disk" "put" S.Disk_put (lif fun _ => (rd 0)) (consZ (lif fun _ => (rd 3)) (consZ (lif fun _ => (bin subD' (rd 1) (rd 3))) nilZ)))) nilSZ))
theorem in_vis (P : List Fl) (p : Str) : inD (.str p) (dD (Fl.vis P)) = some (.bl (decide (p ∈ P.map Fl.path))) := by
  rw [in_tD]
  unfold Fl.vis
  rw [tab_has]
theorem bin_at {g : Dat → Dat → Option Dat} {f1 f2 : Rho → Option Dat} {ρ : Rho} {x y : Dat} (h1 : f1 ρ = some x) (h2 : f2 ρ = some y) : bin g f1 f2 ρ = g x y := by
  show (f1 ρ).bind (fun x => (f2 ρ).bind fun y => g x y) = _
  rw [h1, Option.bind_some, h2, Option.bind_some]
theorem app_at {g : List Dat → Option Dat} {f : Rho → Option Dat} {ρ : Rho} {x : Dat} (h : f ρ = some x) : app g (consA f nilA) ρ = g [x] := by
  simp [h]
theorem nn {p : Prop} (h : p) : ¬¬p := fun z => z h
theorem nin_vis (P : List Fl) (p : Str) : ninX (.str p) (dD (Fl.vis P)) = some (.bl (decide (p ∉ P.map Fl.path))) := by
  have h := in_vis P p
  have e : ninX (.str p) (dD (Fl.vis P)) = (inB (.str p) (dD (Fl.vis P))).map fun k => .bl !k := rfl
  have e2 : inD (.str p) (dD (Fl.vis P)) = (inB (.str p) (dD (Fl.vis P))).map Dat.bl := rfl
  rw [e2] at h
  obtain ⟨t, h1, h2⟩ := Option.map_eq_some_iff.mp h
  cases h2
  rw [e, h1]
  show some (Dat.bl (!decide _)) = _
  congr 2
  by_cases hm : p ∈ P.map Fl.path
  · rw [decide_eq_true hm, decide_eq_false (nn hm)]
    rfl
  · rw [decide_eq_false hm, decide_eq_true hm]
    rfl
section
variable {b k r : Nat} {R : List (Str × Str)} {P0 Q : List Fl}
def tRho (b : Nat) (Q P0 : List Fl) (x : Option SV) : Rho := [some (.fro (.cel b)), some (.fro (dD (Fl.vis Q))), some (.fro (dD (Fl.vis P0))), x]
theorem turn_one {z : Sto} {P : List Fl} {l : Option Nat} (h : DA z b k r P R l) (hP : P.length < 3000) {p : Str} (hin : p ∈ P0.map Fl.path ∨ p ∈ Q.map Fl.path) :
    (dif P0 Q p = false → turnB z (tRho b Q P0 (some (.fro (.str p)))) = .nx z (tRho b Q P0 (some (.fro (.str p))))) ∧
    (dif P0 Q p = true → l = some 0 → turnB z (tRho b Q P0 (some (.fro (.str p)))) = .exc z (tRho b Q P0 (some (.fro (.str p)))) "Fallen") ∧
    (dif P0 Q p = true → l ≠ some 0 → ∃ z' P', turnB z (tRho b Q P0 (some (.fro (.str p)))) = .nx z' (tRho b Q P0 (some (.fro (.str p)))) ∧ DA z' b k r P' R (pred1 l) ∧ Keep [b, k] z z' ∧ P'.length ≤ P.length + 1 ∧ ∀ q, lin P' q = if q = p then lin Q p else lin P q) := by
  have i1 := nin_vis Q p
  have i2 := nin_vis P0 p
  have g1 := vis_lin p Q
  have g2 := vis_lin p P0
  have d1 := disk_in h (m := "erase") (by simp)
  have d2 := disk_in h (m := "put") (by simp)
  have s1 : sn z (.str p) = some (.str p) := rfl
  cases hQ : lin Q p with
  | none =>
    have n1 : p ∉ Q.map Fl.path := fun z => lin_in.mp z hQ
    have n2 : p ∈ P0.map Fl.path := hin.resolve_right n1
    have hd : dif P0 Q p = true := decide_eq_true (by rw [hQ]; exact lin_in.mp n2)
    rw [decide_eq_true n1] at i1
    refine ⟨fun z => absurd z (by rw [hd]; decide), fun _ hl => ?_, fun _ hl => ?_⟩
    · subst hl
      have e := erase_no h p
      unfold turnB tRho
      generalize dD (Fl.vis Q) = V1 at i1
      generalize dD (Fl.vis P0) = V2
      simp [i1, d1, e]
    · obtain ⟨z', e, h', k'⟩ := erase_is h hl p
      refine ⟨z', outK Fl.path p P, ?_, h', k', Nat.le_trans (outK_len _ _ _) (Nat.le_succ _), fun q => by rw [lin_out]⟩
      unfold turnB tRho
      generalize dD (Fl.vis Q) = V1 at i1
      generalize dD (Fl.vis P0) = V2
      simp [i1, d1, e]
  | some ls =>
    have n1 : p ∈ Q.map Fl.path := lin_in.mpr (by rw [hQ]; intro z; cases z)
    rw [decide_eq_false (nn n1)] at i1
    rw [hQ] at g1
    have e1 : subD' (dD (Fl.vis Q)) (.str p) = some (.lst (txs ls)) := by rw [sub_dD, g1]; rfl
    have key : ∀ (X : RZ), turnB z (tRho b Q P0 (some (.fro (.str p)))) = X ↔ (if dif P0 Q p = true then drpZ (methZ "Disk" "put" S.Disk_put (lif fun _ => (rd 0)) (consZ (lif fun _ => (rd 3)) (consZ (lif fun _ => (bin subD' (rd 1) (rd 3))) nilZ))) z (tRho b Q P0 (some (.fro (.str p)))) else .nx z (tRho b Q P0 (some (.fro (.str p))))) = X := fun X => by
      have q : turnB z (tRho b Q P0 (some (.fro (.str p)))) = (if dif P0 Q p = true then drpZ (methZ "Disk" "put" S.Disk_put (lif fun _ => (rd 0)) (consZ (lif fun _ => (rd 3)) (consZ (lif fun _ => (bin subD' (rd 1) (rd 3))) nilZ))) z (tRho b Q P0 (some (.fro (.str p)))) else .nx z (tRho b Q P0 (some (.fro (.str p))))) := by
        unfold turnB tRho
        cases h0 : lin P0 p with
        | none =>
          have n2 : p ∉ P0.map Fl.path := fun z => lin_in.mp z h0
          rw [decide_eq_true n2] at i2
          have hd : dif P0 Q p = true := decide_eq_true (by rw [h0, hQ]; intro z; cases z)
          rw [hd]
          generalize dD (Fl.vis Q) = V1 at i1 e1
          generalize dD (Fl.vis P0) = V2 at i2
          simp [i1, i2]
        | some l0 =>
          have n2 : p ∈ P0.map Fl.path := lin_in.mpr (by rw [h0]; intro z; cases z)
          rw [decide_eq_false (nn n2)] at i2
          rw [h0] at g2
          have e2 : subD' (dD (Fl.vis P0)) (.str p) = some (.lst (txs l0)) := by rw [sub_dD, g2]; rfl
          have e3 : neX (.lst (txs l0)) (.lst (txs ls)) = some (.bl (dif P0 Q p)) := by
            have := ne_opt (some l0) (some ls)
            rw [← h0, ← hQ] at this
            rw [h0, hQ] at this
            unfold dif
            rw [h0, hQ]
            exact this
          generalize dif P0 Q p = t at e3
          generalize dD (Fl.vis Q) = V1 at i1 e1
          generalize dD (Fl.vis P0) = V2 at i2 e2
          generalize Dat.lst (txs ls) = w1 at e1 e3
          generalize Dat.lst (txs l0) = w2 at e2 e3
          cases t <;> simp [i1, i2, e1, e2, e3]
      rw [q]
    refine ⟨fun hd => ?_, fun hd hl => ?_, fun hd hl => ?_⟩
    · rw [key, if_neg (by rw [hd]; decide)]
    · subst hl
      have e := put_no h p (.lst (txs ls))
      rw [key, if_pos hd]
      unfold tRho
      generalize dD (Fl.vis Q) = V1 at i1 e1
      generalize dD (Fl.vis P0) = V2
      generalize Dat.lst (txs ls) = w1 at e1 e
      simp [e1, d2, e]
    · obtain ⟨z', e, h', k'⟩ := put_is h hl (by omega) (p := p) (d := .lst (txs ls)) (ls := ls) fun z' _ => sn_ncl z' (by rw [ncl]; exact ncls_txs ls)
      refine ⟨z', _, ?_, h', k', putK_len _ _ _, fun q => by rw [lin_put]⟩
      rw [key, if_pos hd]
      unfold tRho
      generalize dD (Fl.vis Q) = V1 at i1 e1
      generalize dD (Fl.vis P0) = V2
      generalize Dat.lst (txs ls) = w1 at e1 e
      simp [e1, d2, e]
theorem turn_go : ∀ (U : List Str) {z : Sto} {P : List Fl} {l : Option Nat} (x : Option SV), DA z b k r P R l → U.Nodup → (∀ p ∈ U, p ∈ P0.map Fl.path ∨ p ∈ Q.map Fl.path) → P.length + U.length < 3000 →
    ∃ z' P' x', forGoZ (hName 3) turnB (txs U) z (tRho b Q P0 x) = (if falls l (U.filter (dif P0 Q)).length = true then .exc z' (tRho b Q P0 x') "Fallen" else .nx z' (tRho b Q P0 x')) ∧ DA z' b k r P' R (after l (U.filter (dif P0 Q)).length) ∧ Keep [b, k] z z' ∧ P'.length ≤ P.length + U.length ∧
      ∀ q, lin P' q = if q ∈ goes l (U.filter (dif P0 Q)) then lin Q q else lin P q
  | [], z, P, l, x, h, _, _, _ => ⟨z, P, x, by rw [List.filter_nil, List.length_nil, falls_0]; rfl, by rw [List.filter_nil, List.length_nil, after_0]; exact h, .refl _ _, Nat.le_add_right _ _, fun q => by rw [List.filter_nil, goes_nil, if_neg List.not_mem_nil]⟩
  | p :: U, z, P, l, x, h, nd, hin, hP => by
    rw [List.nodup_cons] at nd
    rw [List.length_cons] at hP
    obtain ⟨o1, o2, o3⟩ := turn_one (P0 := P0) (Q := Q) h (by omega) (hin p List.mem_cons_self)
    have hU : ∀ q ∈ U, q ∈ P0.map Fl.path ∨ q ∈ Q.map Fl.path := fun q hq => hin q (List.mem_cons_of_mem _ hq)
    have step : forGoZ (hName 3) turnB (txs (p :: U)) z (tRho b Q P0 x) = match turnB z (tRho b Q P0 (some (.fro (.str p)))) with
      | .nx z' ρ' => forGoZ (hName 3) turnB (txs U) z' ρ'
      | .cont z' ρ' => forGoZ (hName 3) turnB (txs U) z' ρ'
      | .brk z' ρ' => .nx z' ρ'
      | r => r := rfl
    rw [step]
    cases hd : dif P0 Q p with
    | false =>
      rw [o1 hd, List.filter_cons, if_neg (by rw [hd]; decide)]
      obtain ⟨z', P', x', e1, e2, e3, e4, e5⟩ := turn_go U (some (.fro (.str p))) h nd.2 hU (by omega)
      exact ⟨z', P', x', e1, e2, e3, by rw [List.length_cons]; omega, e5⟩
    | true =>
      rw [List.filter_cons, if_pos hd, List.length_cons]
      by_cases hl : l = some 0
      · rw [o2 hd hl]
        subst hl
        refine ⟨z, P, some (.fro (.str p)), ?_, ?_, .refl _ _, Nat.le_add_right _ _, fun q => ?_⟩
        · rw [if_pos (by simp [falls])]
        · simp only [after, Option.map_some, Nat.zero_sub]
          exact h
        · simp [goes]
      · obtain ⟨z1, P1, w1, h1, k1, l1, f1⟩ := o3 hd hl
        rw [w1, falls_1 hl, after_1, goes_1 hl]
        obtain ⟨z', P', x', e1, e2, e3, e4, e5⟩ := turn_go U (some (.fro (.str p))) h1 nd.2 hU (by omega)
        refine ⟨z', P', x', e1, e2, k1.trans e3, by rw [List.length_cons]; omega, fun q => ?_⟩
        rw [e5, f1]
        by_cases hq : q = p
        · subst hq
          simp
        · simp [hq]
end
theorem turn_is {z : Sto} {b k r : Nat} {P Q : List Fl} {R : List (Str × Str)} {l : Option Nat} (h : DA z b k r P R l) (nd : (Q.map Fl.path).Nodup) (hP : P.length < 900) (hQ : Q.length < 900) :
    ∃ z' P', S.turn_to z [.cel b, dD (Fl.vis Q)] = some (if falls l (difs P Q).length = true then .exc z' "Fallen" else .ok z' .non) ∧ DA z' b k r P' R (after l (difs P Q).length) ∧ Keep [b, k] z z' ∧ P'.length ≤ P.length + (P.length + Q.length) ∧
      ∀ q, lin P' q = if q ∈ goes l (difs P Q) then lin Q q else lin P q := by
  have d1 := disk_in h (m := "files_now") (by simp)
  have n1 := now_is h hP
  have k1 : app listKD (consA (rd 2) nilA) (tRho b Q P none) = some (.lst (txs (P.map Fl.path))) := by
    show some (Dat.lst (((Fl.vis P).map (·.1)).map kyD)) = _
    unfold Fl.vis
    rw [tab_keys, List.map_map, List.map_map]
    unfold txs
    rw [List.map_map]
    rfl
  have k2 : lcDL Lkey (rd 1) [3] (hName 3) (tst (bin ninX (rd 3) (rd 2))) (rd 3) (tRho b Q P none) = some (txs ((Q.map Fl.path).filter fun p => decide (p ∉ P.map Fl.path))) := by
    have wk : walkD Lkey (rd 1) (tRho b Q P none) = some (txs (Q.map Fl.path)) := by
      show some (Lkey ((Fl.vis Q).map (·.1)) _) = _
      unfold Fl.vis Lkey
      rw [tab_keys, List.map_map, List.map_map]
      unfold txs
      rw [List.map_map]
      rfl
    have run := lcGo_run (h := hName 3) (t := tst (bin ninX (rd 3) (rd 2))) (f := rd 3) (ρ := tRho b Q P none) (g := Dat.str) (p := fun p => decide (p ∉ P.map Fl.path)) (F := Dat.str) (Q.map Fl.path) fun p hp => by
      refine ⟨tRho b Q P (some (.fro (.str p))), rfl, ?_, fun _ => rfl⟩
      have i2 := nin_vis P p
      unfold tRho
      generalize dD (Fl.vis Q) = V1
      generalize dD (Fl.vis P) = V2 at i2
      by_cases hm : p ∈ P.map Fl.path
      · rw [decide_eq_false (nn hm)] at i2 ⊢
        simp [i2]
      · rw [decide_eq_true hm] at i2 ⊢
        simp [i2]
    unfold lcDL
    rw [m_lcL, wk, Option.bind_some, m_lcC (by rw [txs_len, List.length_map]; omega)]
    exact run
  have hU : (addP P Q).length < 2000 := by
    have := allP_len P Q
    unfold allP at this
    rw [List.length_mergeSort] at this
    omega
  have it : itS (app sortQ (consA (bin addD (app listKD (consA (rd 2) nilA)) (fun ρ => (lcDL Lkey (rd 1) [3] (hName 3) (tst (bin ninX (rd 3) (rd 2))) (rd 3) ρ).map Dat.lst)) nilA)) (tRho b Q P none) = some (txs (allP P Q)) := by
    have e0 : txs (P.map Fl.path) ++ txs ((Q.map Fl.path).filter fun p => decide (p ∉ P.map Fl.path)) = txs (addP P Q) := by
      unfold txs addP
      rw [List.map_append]
    have la : (txs (P.map Fl.path)).length + (txs ((Q.map Fl.path).filter fun p => decide (p ∉ P.map Fl.path))).length ≤ sizeLine := by
      have := congrArg List.length e0
      rw [List.length_append] at this
      rw [this, txs_len, size_is]
      omega
    have e1 : bin addD (app listKD (consA (rd 2) nilA)) (fun ρ => (lcDL Lkey (rd 1) [3] (hName 3) (tst (bin ninX (rd 3) (rd 2))) (rd 3) ρ).map Dat.lst) (tRho b Q P none) = some (.lst (txs (addP P Q))) := by
      rw [bin_at k1 (congrArg (Option.map Dat.lst) k2), add_lst la, e0]
    have e2 := sortQ_txs hU
    have e3 := app_at (g := sortQ) e1
    rw [e2] at e3
    unfold itS
    rw [e3]
    rfl
  obtain ⟨z', P', x', e1, e2, e3, e4, e5⟩ := turn_go (P0 := P) (Q := Q) (allP P Q) none h (allP_nd h.nd nd) (fun p hp => allP_mem.mp hp) (by have := allP_len P Q; omega)
  refine ⟨z', P', ?_, e2, e3, by have := allP_len P Q; omega, e5⟩
  have e1 : forGoZ (hName 3) turnB (txs (allP P Q)) z (tRho b Q P none) = if falls l (difs P Q).length = true then .exc z' (tRho b Q P x') "Fallen" else .nx z' (tRho b Q P x') := e1
  unfold turnB at e1
  have ln : ∀ z, (lif fun _ => itS (app sortQ (consA (bin addD (app listKD (consA (rd 2) nilA)) (fun ρ => (lcDL Lkey (rd 1) [3] (hName 3) (tst (bin ninX (rd 3) (rd 2))) (rd 3) ρ).map Dat.lst)) nilA))) z (tRho b Q P none) = .ok z (txs (allP P Q)) := fun z => by
    unfold lif
    simp only [it]
  have st : asgZ 2 (methZ "Disk" "files_now" (snpZ S.Disk_files_now) (lif fun _ => (rd 0)) nilZ) z [some (.fro (.cel b)), some (.fro (dD (Fl.vis Q))), none, none] = .nx z (tRho b Q P none) := by
    unfold tRho
    simp [d1, n1]
  have s0 : startR 4 [.cel b, dD (Fl.vis Q)] = [some (.fro (.cel b)), some (.fro (dD (Fl.vis Q))), none, none] := rfl
  unfold S.turn_to S.turn_to_b
  rw [z_fnZ, if_pos (show [Dat.cel b, dD (Fl.vis Q)].length = 2 from rfl), s0, z_seqZ, st]
  show finZ (forZ _ _ _ z (tRho b Q P none)) = _
  rw [z_forZ, ln]
  show finZ (forGoZ _ _ (txs (allP P Q)) z (tRho b Q P none)) = _
  rw [e1]
  by_cases hf : falls l (difs P Q).length = true
  · rw [if_pos hf, if_pos hf]
    rfl
  · rw [if_neg hf, if_neg hf]
    rfl
end
end Pq

namespace Pq
open PySem PySem.Spec PyProof.Rows L2
noncomputable section

theorem cell_at (ns : List Int) (k : Nat) : ∃ c : Int, S_k62._law_cell_at [.scr (ns.map Dat.int), .int k] = some (.ok (.fro (.int c))) := by
  by_cases h : k < ns.length
  · refine ⟨ns[k], ?_⟩
    have e : atI (ns.map Dat.int) (k : Int) = some (.int ns[k]) := by rw [atI_nat]; simp [h]
    simp [S_k62._law_cell_at, S_k62._law_cell_at_b, h, e]
  · refine ⟨0, ?_⟩
    simp [S_k62._law_cell_at, S_k62._law_cell_at_b, h]
theorem rng_from (a : Int) (n : Nat) : rng a n = (List.range n).map fun i : Nat => Dat.int (a + (i : Int)) := rfl
/-! ### the files that a script draws -/
def fBK62 : Rho → Res := (seqS (asgS 5 (frzS (callS S_k62._law_cell_at (consA (rd 0) (consA (rd 4) nilA)))))
    (setDP 3 [] (frzS (callS S_k62._law_path (consA (frzS (callS S_k62._law_mixed (consA (rd 5) (consA (kD (.int 1)) nilA)))) nilA))) (callS S_k62._law_lines (consA (frzS (callS S_k62._law_mixed (consA (bin mulX (bin divD (rd 5) (kD (.int 3))) (kD (.int 3))) (consA (kD (.int 2)) nilA)))) nilA))))
theorem file_one (ns : List Int) (st k : Nat) (c : Int) (F : List Fl) (nd : (F.map Fl.path).Nodup) (hl : F.length < 100) (x5 : Option SV) : ∃ p ls n, fBK62 [some (.fro (.scr (ns.map Dat.int))), some (.fro (.int st)), some (.fro (.int c)), some (oW (Fl.vis F)), some (.fro (.int (k : Int))), x5] =
    .nx [some (.fro (.scr (ns.map Dat.int))), some (.fro (.int st)), some (.fro (.int c)), some (oW (Fl.vis (putK Fl.path ⟨p, ls, 0⟩ F))), some (.fro (.int (k : Int))), some (.fro (.int n))] := by
  obtain ⟨n, hn⟩ := cell_at ns k
  obtain ⟨m1, _, h1⟩ := mixed_is n 1
  obtain ⟨m2, _, h2⟩ := mixed_is (n / 3 * 3) 2
  obtain ⟨p, _, h3⟩ := pathB_is m1
  obtain ⟨ls, _, h4⟩ := linesO_is m2
  have mm : mulX (.int (n / 3)) (.int 3) = some (.int (n / 3 * 3)) := mul_int (.inr (by omega))
  refine ⟨p, ls, n, ?_⟩
  have e1 : asgS 5 (frzS (callS S_k62._law_cell_at (consA (rd 0) (consA (rd 4) nilA)))) [some (.fro (.scr (ns.map Dat.int))), some (.fro (.int st)), some (.fro (.int c)), some (oW (Fl.vis F)), some (.fro (.int (k : Int))), x5] =
      .nx [some (.fro (.scr (ns.map Dat.int))), some (.fro (.int st)), some (.fro (.int c)), some (oW (Fl.vis F)), some (.fro (.int (k : Int))), some (.fro (.int n))] := by simp [hn, frz]
  have e2 := putK_tab Fl.path (fun x => Dat.lst (txs x.lines)) ⟨p, ls, 0⟩ F
  unfold fBK62
  rw [m_seqS, e1]
  show setDP 3 [] _ _ _ = _
  refine (setDP_W (al := Fl.vis F) (n := p) (d := .lst (txs ls)) ?_ ?_ ?_ ?_ (tab_nd nd)).trans ?_
  · simp [h1, h3, frz]
  · simp [mm, h2, h4, frz]
    rfl
  · rfl
  · unfold Fl.vis tabT
    rw [List.length_map]
    omega
  · show Res.nx [_, _, _, some (oW (putA (Fl.vis F) (.inr p) (.lst (txs ls)))), _, _] = _
    unfold Fl.vis
    rw [e2]
theorem files_is (ns : List Int) (st : Nat) (hst : st ≤ 100) (c : Int) : ∃ F : List Fl, S_k62._law_files [.scr (ns.map Dat.int), .int st, .int c] = some (.ok (oW (Fl.vis F))) ∧ (F.map Fl.path).Nodup ∧ F.length ≤ 5 := by
  obtain ⟨m, _, hm⟩ := mixed_is c st
  have lp := forGo_each (α := Nat) (h := hName 4) (b := fBK62)
    (fun i : Nat => Dat.int ((st : Int) + (i : Int)))
    (fun pre ρ => ∃ F x4 x5, ρ = [some (.fro (.scr (ns.map Dat.int))), some (.fro (.int st)), some (.fro (.int c)), some (oW (Fl.vis F)), sl x4, sl x5] ∧ (F.map Fl.path).Nodup ∧ F.length ≤ pre.length) (List.range (m % 6)) (fun pre i suf e ρ hI => by
    obtain ⟨F, x4, x5, rfl, nd, hl⟩ := hI
    have hp : pre.length ≤ 5 := by
      have := congrArg List.length e
      rw [List.length_range, List.length_append, List.length_cons] at this
      omega
    have hsum : (st : Int) + (i : Int) = ((st + i : Nat) : Int) := by omega
    obtain ⟨p, ls, n, e1⟩ := file_one ns st (st + i) c F nd (by omega) (sl x5)
    refine ⟨_, _, rfl, .inl ?_, putK Fl.path ⟨p, ls, 0⟩ F, some (.int ((st : Int) + (i : Int))), some (.int n), rfl, putK_nd _ nd, ?_⟩
    · rw [hsum]
      exact e1
    · have := putK_len Fl.path ⟨p, ls, 0⟩ F
      rw [List.length_append, List.length_singleton]
      omega) [some (.fro (.scr (ns.map Dat.int))), some (.fro (.int st)), some (.fro (.int c)), some (oW []), sl none, sl none] ⟨[], none, none, rfl, List.Pairwise.nil, Nat.le_refl _⟩
  obtain ⟨ρ', e1, F, x4, x5, rfl, nd, hl⟩ := lp
  rw [← rng_from] at e1
  rw [List.length_range] at hl
  refine ⟨F, ?_, nd, by omega⟩
  have r : r2 [.int (st : Int), .int ((st : Int) + (m : Int) % 6)] = some (rng st (m % 6)) := by
    rw [r2_int ⟨by omega, by omega, by omega, by omega⟩]
    congr 2
    omega
  have e0 : (SV.od [] [] : SV) = oW [] := rfl
  unfold fBK62 at e1
  simp only [sl_none] at e1
  simp only [S_k62._law_files, S_k62._law_files_b, e0]
  simp [hm, r, e1, frz]
end
end Pq

namespace Pq
open PySem PySem.Spec PyProof.Rows L2
noncomputable section
/-! ### turned, and whether it fell -/
theorem turned_is {z : Sto} {b k r : Nat} {P Q : List Fl} {R : List (Str × Str)} {l : Option Nat} (h : DA z b k r P R l) (nd : (Q.map Fl.path).Nodup) (hP : P.length < 900) (hQ : Q.length < 900) :
    ∃ z' P', S_k62._law_turned z [.cel b, dD (Fl.vis Q)] = some (.ok z' (.bl (falls l (difs P Q).length))) ∧ DA z' b k r P' R (after l (difs P Q).length) ∧ Keep [b, k] z z' ∧ P'.length ≤ P.length + (P.length + Q.length) ∧
      ∀ q, lin P' q = if q ∈ goes l (difs P Q) then lin Q q else lin P q := by
  obtain ⟨z', P', e1, e2, e3, e4, e5⟩ := turn_is h nd hP hQ
  refine ⟨z', P', ?_, e2, e3, e4, e5⟩
  generalize dD (Fl.vis Q) = V at e1 ⊢
  have tr : ∀ (A B : Sto → Rho → RZ) (z : Sto) (ρ : Rho), tryZ [("Fallen", true)] A B z ρ = match A z ρ with
    | .exc z' ρ' n => (match List.lookup n [(("Fallen" : Str), true)] with
      | some true => noX (B z' ρ')
      | some false => .exc z' ρ' n
      | none => .bad)
    | r => r := fun A B z ρ => by
    unfold tryZ
    cases A z ρ <;> rfl
  by_cases hf : falls l (difs P Q).length = true
  · rw [if_pos hf] at e1
    rw [hf]
    have a1 : drpZ (callZ S.turn_to (consZ (lif fun _ => (rd 0)) (consZ (lif fun _ => (rd 1)) nilZ))) z [some (.fro (.cel b)), some (.fro V), some (.fro (.bl false))] = .exc z' [some (.fro (.cel b)), some (.fro V), some (.fro (.bl false))] "Fallen" := by simp [e1]
    have a2 : List.lookup ("Fallen" : Str) [(("Fallen" : Str), true)] = some true := by decide +kernel
    have a3 := tr (drpZ (callZ S.turn_to (consZ (lif fun _ => (rd 0)) (consZ (lif fun _ => (rd 1)) nilZ)))) (asgZ 2 (lif fun _ => (kD (.bl true)))) z [some (.fro (.cel b)), some (.fro V), some (.fro (.bl false))]
    rw [a1] at a3
    simp only [a2] at a3
    simp [S_k62._law_turned, S_k62._law_turned_b, a3, noX]
  · rw [if_neg hf] at e1
    rw [Bool.not_eq_true] at hf
    rw [hf]
    have a1 : drpZ (callZ S.turn_to (consZ (lif fun _ => (rd 0)) (consZ (lif fun _ => (rd 1)) nilZ))) z [some (.fro (.cel b)), some (.fro V), some (.fro (.bl false))] = .nx z' [some (.fro (.cel b)), some (.fro V), some (.fro (.bl false))] := by simp [e1]
    have a3 := tr (drpZ (callZ S.turn_to (consZ (lif fun _ => (rd 0)) (consZ (lif fun _ => (rd 1)) nilZ)))) (asgZ 2 (lif fun _ => (kD (.bl true)))) z [some (.fro (.cel b)), some (.fro V), some (.fro (.bl false))]
    rw [a1] at a3
    simp only at a3
    simp [S_k62._law_turned, S_k62._law_turned_b, a3]
end
end Pq

namespace Pq
open PySem PySem.Spec PyProof.Rows L2
noncomputable section
def lw62_0 : Sto → Rho → RZ := (asgZ 1 (lif fun _ => (frzS (callS S_k62._law_files (consA (rd 0) (consA (kD (.int 1)) (consA (frzS (callS S_k62._law_cell_at (consA (rd 0) (consA (kD (.int 0)) nilA)))) nilA)))))))
def lw62_1 : Sto → Rho → RZ := (asgZ 2 (lif fun _ => (frzS (callS S_k62._law_files (consA (rd 0) (consA (bin addD (kD (.int 1)) (bin modD (frzS (callS S_k62._law_cell_at (consA (rd 0) (consA (kD (.int 0)) nilA)))) (kD (.int 4)))) (consA (bin divD (frzS (callS S_k62._law_cell_at (consA (rd 0) (consA (kD (.int 0)) nilA)))) (kD (.int 4))) nilA)))))))
def lw62_2 : Sto → Rho → RZ := (asgZ 3 (mkZ "Disk" S.Disk_init nilZ))
def lw62_3 : Sto → Rho → RZ := (forDZ itemsD (rd 1) (hTup 2 (hCons (hName 4) (hCons (hName 5) hNil))) (drpZ (methZ "Disk" "put" S.Disk_put (lif fun _ => (rd 3)) (consZ (lif fun _ => (rd 4)) (consZ (lif fun _ => (rd 5)) nilZ)))))
def lw62_4 : Sto → Rho → RZ := (drpZ (methZ "Disk" "note" S.Disk_note (lif fun _ => (rd 3)) (consZ (lif fun _ => (kD (.str "kind"))) (consZ (lif fun _ => (kD (.str "text"))) nilZ))))
def lw62_5 : Sto → Rho → RZ := (asgZ 6 (lif fun _ => (sortSetE (bin addD (app listKD (consA (rd 1) nilA)) (app listKD (consA (rd 2) nilA))))))
def lw62_6 : Sto → Rho → RZ := (lifS fun _ => (asgS 6 (lcS (itS (rd 6)) [4] (hName 4) (tst (bin neX (bin get1D (rd 1) (rd 4)) (bin get1D (rd 2) (rd 4)))) (rd 4))))
def lw62_7 : Sto → Rho → RZ := (asgZ 7 (lif fun _ => (bin modD (frzS (callS S_k62._law_cell_at (consA (rd 0) (consA (kD (.int 12)) nilA)))) (bin addD (app lenD (consA (rd 6) nilA)) (kD (.int 1))))))
def lw62_8 : Sto → Rho → RZ := (drpZ (methZ "Disk" "allow" S.Disk_allow (lif fun _ => (rd 3)) (consZ (lif fun _ => (rd 7)) nilZ)))
def lw62_9 : Sto → Rho → RZ := (asgZ 8 (aloE fun _ => (fun _ => some (.od [] []))))
def lw62_10 : Sto → Rho → RZ := (forDZ itemsD (rd 2) (hTup 2 (hCons (hName 4) (hCons (hName 5) hNil))) (dputZ (lif fun _ => (app listD (consA (rd 5) nilA))) (lif fun _ => (rd 8)) (lif fun _ => (rd 4))))
def lw62_11 : Sto → Rho → RZ := (stlTo 8 (ifZ (orZ (tsZ (opZ neX (callZ S_k62._law_turned (consZ (lif fun _ => (rd 3)) (consZ (lif fun _ => (rd 8)) nilZ))) (lif fun _ => (bin ltX (rd 7) (app lenD (consA (rd 6) nilA)))))) (lif fun _ => (tst (bin neX (rd 8) (rd 2))))) (retZ (lif fun _ => (kD (.bl false)))) nilSZ))
def lw62_12 : Sto → Rho → RZ := (asgZ 9 (aloE fun _ => (appO dictO (consA (rd 1) nilA))))
def lw62_13 : Sto → Rho → RZ := (forZ (lif fun _ => (itS (slS (rd 6) noP (prt (rd 7))))) (hName 4) (ifZ (lif fun _ => (tst (bin inX (rd 4) (rd 2)))) (dputZ (lif fun _ => (bin subD' (rd 2) (rd 4))) (lif fun _ => (rd 9)) (lif fun _ => (rd 4))) (drpZ (dpop1Z (lif fun _ => (rd 9)) (lif fun _ => (rd 4))))))
def lw62_14 : Sto → Rho → RZ := (ifZ (orZ (tsZ (opZ neX (methZ "Disk" "files_now" (snpZ S.Disk_files_now) (lif fun _ => (rd 3)) nilZ) (lif fun _ => (rd 9)))) (tsZ (opZ neX (methZ "Disk" "book_now" (snpZ S.Disk_book_now) (lif fun _ => (rd 3)) nilZ) (lif fun _ => (lstS (consA (tupS (consA (kD (.str "kind")) (consA (kD (.str "text")) nilA))) nilA)))))) (retZ (lif fun _ => (kD (.bl false)))) nilSZ)
def lw62_15 : Sto → Rho → RZ := (drpZ (methZ "Disk" "allow" S.Disk_allow (lif fun _ => (rd 3)) (consZ (lif fun _ => (bin subD (app lenD (consA (rd 6) nilA)) (rd 7))) nilZ)))
def lw62_16 : Sto → Rho → RZ := (ifZ (orZ (tsZ (callZ S_k62._law_turned (consZ (lif fun _ => (rd 3)) (consZ (lif fun _ => (rd 2)) nilZ)))) (tsZ (opZ neX (methZ "Disk" "files_now" (snpZ S.Disk_files_now) (lif fun _ => (rd 3)) nilZ) (lif fun _ => (rd 2))))) (retZ (lif fun _ => (kD (.bl false)))) nilSZ)
def lw62_17 : Sto → Rho → RZ := (drpZ (methZ "Disk" "allow" S.Disk_allow (lif fun _ => (rd 3)) (consZ (lif fun _ => (kD (.int 0))) nilZ)))
def lw62_18 : Sto → Rho → RZ := (retZ (notVZ (callZ S_k62._law_turned (consZ (lif fun _ => (rd 3)) (consZ (lif fun _ => (rd 2)) nilZ)))))
theorem lw62__eq : S_k62.law_b = (seqZ lw62_0 (seqZ lw62_1 (seqZ lw62_2 (seqZ lw62_3 (seqZ lw62_4 (seqZ lw62_5 (seqZ lw62_6 (seqZ lw62_7 (seqZ lw62_8 (seqZ lw62_9 (seqZ lw62_10 (seqZ lw62_11 (seqZ lw62_12 (seqZ lw62_13 (seqZ lw62_14 (seqZ lw62_15 (seqZ lw62_16 (seqZ lw62_17 lw62_18)))))))))))))))))) := rfl
abbrev rh62 (sc : Dat) (F T : List Fl) (x4 x5 x6 x7 x8 x9 : Option SV) : Rho := [some (.fro sc), some (.fro (dD (Fl.vis F))), some (.fro (dD (Fl.vis T))), some (.fro (.cel 0)), x4, x5, x6, x7, x8, x9]
section
variable {sc : Dat} {F T : List Fl}
theorem pre_new {P suf : List Fl} {x : Fl} (nd : ((P ++ x :: suf).map Fl.path).Nodup) : x.path ∉ P.map Fl.path := by
  rw [List.map_append, List.map_cons, List.nodup_append] at nd
  exact fun hm => nd.2.2 _ hm _ List.mem_cons_self rfl
/-- all files put -/
theorem st62_3 (nd : (F.map Fl.path).Nodup) (hF : F.length ≤ 5) {z : Sto} (h : DA z 0 1 2 [] [] none) : ∃ z' P x4 x5, lw62_3 z (rh62 sc F T none none none none none none) = .nx z' (rh62 sc F T (sl x4) (sl x5) none none none none) ∧ DA z' 0 1 2 P [] none ∧ P.length ≤ 5 ∧ ∀ q, lin P q = lin F q := by
  have lp := forZ_each (α := Fl) (h := hTup 2 (hCons (hName 4) (hCons (hName 5) hNil))) (b := (drpZ (methZ "Disk" "put" S.Disk_put (lif fun _ => (rd 3)) (consZ (lif fun _ => (rd 4)) (consZ (lif fun _ => (rd 5)) nilZ))))) (pairT Fl.path fun x => Dat.lst (txs x.lines))
    (fun pre z' ρ => ∃ P x4 x5, ρ = rh62 sc F T (sl x4) (sl x5) none none none none ∧ DA z' 0 1 2 P [] none ∧ P.length ≤ pre.length ∧ ∀ q, lin P q = lin pre q) F (fun pre x suf e z1 ρ hI => by
    obtain ⟨P, x4, x5, rfl, h1, hl, hq⟩ := hI
    have hpl : pre.length ≤ 5 := by have := congrArg List.length e; rw [List.length_append] at this; omega
    rw [e] at nd
    have hx := pre_new nd
    obtain ⟨z', w1, w2, w3⟩ := put_is h1 (l := none) (fun z => nomatch z) (by omega) (p := x.path) (d := .lst (txs x.lines)) (ls := x.lines) fun z' _ => sn_ncl z' (by rw [ncl]; exact ncls_txs _)
    have d2 := disk_in h1 (m := "put") (by simp)
    refine ⟨rh62 sc F T (sl (some (.str x.path))) (sl (some (.lst (txs x.lines)))) none none none none, z', rh62 sc F T (sl (some (.str x.path))) (sl (some (.lst (txs x.lines)))) none none none none, rfl, .inl ?_, _, some (.str x.path), some (.lst (txs x.lines)), rfl, w2, ?_, fun q => ?_⟩
    · unfold rh62
      generalize dD (Fl.vis F) = V1
      generalize dD (Fl.vis T) = V2
      generalize Dat.lst (txs x.lines) = L at w1
      simp [d2, w1]
    · have := putK_len Fl.path ⟨x.path, x.lines, z1.length⟩ P
      rw [List.length_append, List.length_singleton]
      omega
    · rw [lin_put, lin_app x q pre hx, hq]) z (rh62 sc F T (sl none) (sl none) none none none none) ⟨[], none, none, rfl, h, Nat.le_refl _, fun q => rfl⟩
  obtain ⟨z', ρ', e1, P, x4, x5, rfl, e2, e3, e4⟩ := lp
  refine ⟨z', P, x4, x5, ?_, e2, by omega, e4⟩
  have wi := vis_items F
  unfold lw62_3
  rw [z_forDZ]
  show wdz (wd itemsD (dD (Fl.vis F))) _ = _
  rw [wi, wdz_some]
  simp only [sl_none] at e1
  rw [e1]
  rfl
theorem st62_4 {z : Sto} {P : List Fl} (h : DA z 0 1 2 P [] none) (x4 x5 : Option SV) : ∃ z', lw62_4 z (rh62 sc F T x4 x5 none none none none) = .nx z' (rh62 sc F T x4 x5 none none none none) ∧ DA z' 0 1 2 P [("kind", "text")] none := by
  obtain ⟨z', w1, w2, _⟩ := note_is h (l := none) (fun z => nomatch z) (by simp) "kind" "text"
  have d2 := disk_in h (m := "note") (by simp)
  refine ⟨z', ?_, w2⟩
  unfold lw62_4 rh62
  generalize dD (Fl.vis F) = V1
  generalize dD (Fl.vis T) = V2
  simp [d2, w1]
theorem keysV (P : List Fl) : listKD [dD (Fl.vis P)] = some (.lst (txs (P.map Fl.path))) := by
  show some (Dat.lst (((Fl.vis P).map (·.1)).map kyD)) = _
  unfold Fl.vis txs
  rw [tab_keys, List.map_map, List.map_map, List.map_map]
  rfl
theorem st62_5 (n1 : (F.map Fl.path).Nodup) (n2 : (T.map Fl.path).Nodup) (hF : F.length ≤ 5) (hT : T.length ≤ 5) (z : Sto) (x4 x5 : Option SV) : lw62_5 z (rh62 sc F T x4 x5 none none none none) = .nx z (rh62 sc F T x4 x5 (some (.fro (.lst (txs (allP F T))))) none none none) := by
  have e0 : txs (F.map Fl.path) ++ txs (T.map Fl.path) = txs (F.map Fl.path ++ T.map Fl.path) := by unfold txs; rw [List.map_append]
  have lt : (F.map Fl.path ++ T.map Fl.path).length ≤ 10 := by rw [List.length_append, List.length_map, List.length_map]; omega
  have e1 : bin addD (app listKD (consA (rd 1) nilA)) (app listKD (consA (rd 2) nilA)) (rh62 sc F T x4 x5 none none none none) = some (.lst (txs (F.map Fl.path ++ T.map Fl.path))) := by
    rw [bin_at (app_at (x := dD (Fl.vis F)) rfl |>.trans (keysV F)) (app_at (x := dD (Fl.vis T)) rfl |>.trans (keysV T)), add_lst (by rw [← List.length_append, e0, txs_len, size_is]; omega), e0]
  have pm : (dedupS (F.map Fl.path ++ T.map Fl.path)).Perm (addP F T) := perm_mem (nd_dedup _) (addP_nd n1 n2) fun p => by
    rw [mem_dedup, List.mem_append, ← allP_mem]
    exact (List.mergeSort_perm _ _).mem_iff
  have ld : (dedupS (F.map Fl.path ++ T.map Fl.path)).length < 64 := by
    rw [pm.length_eq]
    have := allP_len F T
    unfold allP at this
    rw [List.length_mergeSort] at this
    omega
  have e2 : sortSetD (.lst (txs (F.map Fl.path ++ T.map Fl.path))) = some (allP F T) := by
    unfold sortSetD
    simp only [txsOf_txs]
    rw [if_pos ⟨by omega, ld⟩, srt_perm pm]
    rfl
  have e3 : sortSetE (bin addD (app listKD (consA (rd 1) nilA)) (app listKD (consA (rd 2) nilA))) (rh62 sc F T x4 x5 none none none none) = some (.lst (txs (allP F T))) := by
    unfold sortSetE
    rw [e1, Option.bind_some, e2]
    rfl
  unfold lw62_5
  generalize txs (allP F T) = L at e3 ⊢
  unfold rh62 at e3 ⊢
  simp [e3, lfR]
theorem st62_6 (n1 : (F.map Fl.path).Nodup) (n2 : (T.map Fl.path).Nodup) (hF : F.length ≤ 5) (hT : T.length ≤ 5) (z : Sto) (x4 x5 : Option Dat) : lw62_6 z (rh62 sc F T (sl x4) (sl x5) (some (.fro (.lst (txs (allP F T))))) none none none) = .nx z (rh62 sc F T (sl x4) (sl x5) (some (.fro (.lst (txs (difs F T))))) none none none) := by
  have run := lcGo_run (h := hName 4) (t := (tst (bin neX (bin get1D (rd 1) (rd 4)) (bin get1D (rd 2) (rd 4))))) (f := rd 4) (ρ := rh62 sc F T none (sl x5) (some (.fro (.lst (txs (allP F T))))) none none none) (g := Dat.str) (p := dif F T) (F := Dat.str) (allP F T) fun p hp => by
    refine ⟨rh62 sc F T (some (.fro (.str p))) (sl x5) (some (.fro (.lst (txs (allP F T))))) none none none, rfl, ?_, fun _ => rfl⟩
    have g1 := get1_dD (Fl.vis F) p
    have g2 := get1_dD (Fl.vis T) p
    rw [vis_lin] at g1 g2
    have ne := ne_opt (lin F p) (lin T p)
    have e : bin neX (bin get1D (rd 1) (rd 4)) (bin get1D (rd 2) (rd 4)) (rh62 sc F T (some (.fro (.str p))) (sl x5) (some (.fro (.lst (txs (allP F T))))) none none none) = some (.bl (dif F T p)) :=
      (bin_at ((bin_at (x := dD (Fl.vis F)) (y := .str p) rfl rfl).trans g1) ((bin_at (x := dD (Fl.vis T)) (y := .str p) rfl rfl).trans g2)).trans ne
    rw [m_tst, e]
    rfl
  have run : lcGo (hName 4) (tst (bin neX (bin get1D (rd 1) (rd 4)) (bin get1D (rd 2) (rd 4)))) (rd 4) (rh62 sc F T none (sl x5) (some (.fro (.lst (txs (allP F T))))) none none none) (txs (allP F T)) = some (txs (difs F T)) := run
  have la : (txs (allP F T)).length ≤ 16777216 := by
    rw [txs_len]
    have := allP_len F T
    omega
  have e3 : lcS (itS (rd 6)) [4] (hName 4) (tst (bin neX (bin get1D (rd 1) (rd 4)) (bin get1D (rd 2) (rd 4)))) (rd 4) (rh62 sc F T (sl x4) (sl x5) (some (.fro (.lst (txs (allP F T))))) none none none) = some (.lst (txs (difs F T))) := by
    rw [m_lcS, m_lcL]
    show ((some (txs (allP F T))).bind _).bind _ = _
    rw [Option.bind_some, m_lcC la]
    show (lcGo _ _ _ (rh62 sc F T none (sl x5) _ none none none) _).bind _ = _
    rw [run]
    rfl
  unfold lw62_6
  generalize txs (allP F T) = L at e3 ⊢
  generalize txs (difs F T) = L2 at e3 ⊢
  unfold rh62 at e3 ⊢
  generalize dD (Fl.vis F) = V1 at e3 ⊢
  generalize dD (Fl.vis T) = V2 at e3 ⊢
  generalize lcS _ _ _ _ _ = f at e3 ⊢
  simp [e3]
end
end
end Pq

namespace Pq
open PySem PySem.Spec PyProof.Rows L2
noncomputable section
theorem set_end (z : Sto) (c c' : Cel) : (z ++ [c]).set z.length c' = z ++ [c'] := by
  rw [List.set_append_right _ _ (Nat.le_refl _), Nat.sub_self]
  rfl
theorem popD_at {z : Sto} {k : Nat} {al : Tb} {n : Str} {d : Dat} (h : z[k]? = some (dctA al)) (g : getA al (.inr n) = some d) : popD z (.cel k) (.str n) = .ok (z.set k (dctA (dropA al (.inr n)))) d := by
  unfold popD
  simp only [h, dctA, isK]
  rw [zip_al, g]
section
variable {sc : Dat} {F T : List Fl}
theorem st62_8 {z : Sto} {P : List Fl} {R : List (Str × Str)} {l : Option Nat} (h : DA z 0 1 2 P R l) (m : Nat) (x4 x5 x6 : Option SV) : ∃ z', lw62_8 z (rh62 sc F T x4 x5 x6 (some (.fro (.int m))) none none) = .nx z' (rh62 sc F T x4 x5 x6 (some (.fro (.int m))) none none) ∧ DA z' 0 1 2 P R (some m) := by
  have e := allow_is h (some m)
  have d := disk_in h (m := "allow") (by simp)
  refine ⟨_, ?_, h.setL (some m)⟩
  unfold lw62_8 rh62
  generalize dD (Fl.vis F) = V1
  generalize dD (Fl.vis T) = V2
  have e : S.Disk_allow z [.cel 0, .int m] = _ := e
  simp [d, e]
theorem st62_10 (nd : (T.map Fl.path).Nodup) (hT : T.length ≤ 5) (z : Sto) (x4 x5 x6 x7 : Option Dat) : ∃ x4' x5', lw62_10 (z ++ [.dct [] []]) (rh62 sc F T (sl x4) (sl x5) (sl x6) (sl x7) (some (.fro (.cel z.length))) none) = .nx (z ++ [dctA (Fl.vis T)]) (rh62 sc F T (sl x4') (sl x5') (sl x6) (sl x7) (some (.fro (.cel z.length))) none) := by
  have lp := forZ_each (α := Fl) (h := hTup 2 (hCons (hName 4) (hCons (hName 5) hNil))) (b := (dputZ (lif fun _ => (app listD (consA (rd 5) nilA))) (lif fun _ => (rd 8)) (lif fun _ => (rd 4)))) (pairT Fl.path fun x => Dat.lst (txs x.lines))
    (fun pre z' ρ => ∃ x4 x5, ρ = rh62 sc F T (sl x4) (sl x5) (sl x6) (sl x7) (some (.fro (.cel z.length))) none ∧ z' = z ++ [dctA (Fl.vis pre)]) T (fun pre x suf e z1 ρ hI => by
    obtain ⟨x4, x5, rfl, rfl⟩ := hI
    have hpl : pre.length ≤ 5 := by have := congrArg List.length e; rw [List.length_append] at this; omega
    rw [e] at nd
    have hx := pre_new nd
    have w := dpt_is (z := z ++ [dctA (Fl.vis pre)]) (k := z.length) (n := x.path) (d := .lst (txs x.lines)) (by rw [st_0]; rfl) (by unfold Fl.vis tabT; rw [List.length_map]; omega)
    rw [set_end, vis_snoc hx] at w
    refine ⟨rh62 sc F T (sl (some (.str x.path))) (sl (some (.lst (txs x.lines)))) (sl x6) (sl x7) (some (.fro (.cel z.length))) none, z ++ [dctA (Fl.vis (pre ++ [x]))], rh62 sc F T (sl (some (.str x.path))) (sl (some (.lst (txs x.lines)))) (sl x6) (sl x7) (some (.fro (.cel z.length))) none, rfl, .inl ?_, some (.str x.path), some (.lst (txs x.lines)), rfl, rfl⟩
    unfold rh62
    generalize dD (Fl.vis F) = V1
    generalize dD (Fl.vis T) = V2
    generalize dctA (Fl.vis pre) = c1 at w ⊢
    generalize dctA (Fl.vis (pre ++ [x])) = c2 at w ⊢
    simp [w]) (z ++ [.dct [] []]) (rh62 sc F T (sl x4) (sl x5) (sl x6) (sl x7) (some (.fro (.cel z.length))) none) ⟨x4, x5, rfl, rfl⟩
  obtain ⟨z', ρ', e1, x4', x5', rfl, rfl⟩ := lp
  refine ⟨x4', x5', ?_⟩
  have wi := vis_items T
  unfold lw62_10
  rw [z_forDZ]
  show wdz (wd itemsD (dD (Fl.vis T))) _ = _
  rw [wi, wdz_some, e1]
  rfl
/-- what is left over -/
theorem difs_rest {P1 : List Fl} {m : Nat} (n0 : (P1.map Fl.path).Nodup) (n1 : (F.map Fl.path).Nodup) (n2 : (T.map Fl.path).Nodup) (h : ∀ q, lin P1 q = if q ∈ (difs F T).take m then lin T q else lin F q) : (difs P1 T).length = (difs F T).length - m := by
  have nd := difs_nd n1 n2
  rw [← List.take_append_drop m (difs F T), List.nodup_append] at nd
  have pm := perm_mem (difs_nd n0 n2) nd.2.1 fun p => by
    rw [difs_mem, h p]
    by_cases hp : p ∈ (difs F T).take m
    · rw [if_pos hp]
      exact ⟨fun z => absurd rfl z, fun z => absurd rfl (nd.2.2 p hp p z)⟩
    · rw [if_neg hp, ← difs_mem]
      constructor
      · intro hm
        rw [← List.take_append_drop m (difs F T)] at hm
        exact (List.mem_append.mp hm).resolve_left hp
      · exact fun hm => List.mem_of_mem_drop hm
  rw [pm.length_eq, List.length_drop]
/-- the dict that is due -/
theorem due_go {zz : Sto} (n2 : (T.map Fl.path).Nodup) (W : List Str) (ndW : W.Nodup) (hin : ∀ p ∈ W, lin F p ≠ lin T p) (hW : W.length ≤ 100) (n1 : (F.map Fl.path).Nodup) (hF : F.length ≤ 5) (x4 x5 x6 x7 : Option Dat) (x8 : Dat) : ∃ D x4', forGoZ (hName 4) (ifZ (lif fun _ => (tst (bin inX (rd 4) (rd 2)))) (dputZ (lif fun _ => (bin subD' (rd 2) (rd 4))) (lif fun _ => (rd 9)) (lif fun _ => (rd 4))) (drpZ (dpop1Z (lif fun _ => (rd 9)) (lif fun _ => (rd 4))))) (txs W) (zz ++ [dctA (Fl.vis F)]) (rh62 sc F T (sl x4) (sl x5) (sl x6) (sl x7) (some (.fro x8)) (some (.fro (.cel zz.length)))) =
    .nx (zz ++ [dctA (Fl.vis D)]) (rh62 sc F T (sl x4') (sl x5) (sl x6) (sl x7) (some (.fro x8)) (some (.fro (.cel zz.length)))) ∧ (D.map Fl.path).Nodup ∧ ∀ q, lin D q = if q ∈ W then lin T q else lin F q := by
  have lp := forZ_each (α := Str) (h := hName 4) (b := (ifZ (lif fun _ => (tst (bin inX (rd 4) (rd 2)))) (dputZ (lif fun _ => (bin subD' (rd 2) (rd 4))) (lif fun _ => (rd 9)) (lif fun _ => (rd 4))) (drpZ (dpop1Z (lif fun _ => (rd 9)) (lif fun _ => (rd 4)))))) Dat.str
    (fun pre z' ρ => ∃ D x4', ρ = rh62 sc F T (sl x4') (sl x5) (sl x6) (sl x7) (some (.fro x8)) (some (.fro (.cel zz.length))) ∧ z' = zz ++ [dctA (Fl.vis D)] ∧ (D.map Fl.path).Nodup ∧ D.length ≤ 5 + pre.length ∧ ∀ q, lin D q = if q ∈ pre then lin T q else lin F q) W (fun pre p suf e z1 ρ hI => by
    obtain ⟨D, x4', rfl, rfl, nd, hl, hq⟩ := hI
    have hpl : pre.length ≤ 100 := by have := congrArg List.length e; rw [List.length_append] at this; omega
    have hp0 : p ∉ pre := by
      rw [e, List.nodup_append] at ndW
      exact fun hm => ndW.2.2 _ hm _ List.mem_cons_self rfl
    have hd := hin p (by rw [e]; simp)
    have i1 := in_vis T p
    have g1 := vis_lin p T
    have ix : inX (.str p) (dD (Fl.vis T)) = inD (.str p) (dD (Fl.vis T)) := rfl
    have fin_ : ∀ (D' : List Fl), (∀ q, lin D' q = if q = p then lin T q else lin D q) → ∀ q, lin D' q = if q ∈ pre ++ [p] then lin T q else lin F q := fun D' h q => by
      rw [h, hq]
      by_cases h1 : q = p
      · rw [if_pos h1, if_pos (by simp [h1])]
      · rw [if_neg h1]
        simp [h1]
    cases hT : lin T p with
    | some ls =>
      have n1 : p ∈ T.map Fl.path := lin_in.mpr (by rw [hT]; exact fun z => nomatch z)
      rw [decide_eq_true n1] at i1
      rw [hT] at g1
      have e1 : subD' (dD (Fl.vis T)) (.str p) = some (.lst (txs ls)) := by rw [sub_dD, g1]; rfl
      have w := dpt_is (z := zz ++ [dctA (Fl.vis D)]) (k := zz.length) (n := p) (d := .lst (txs ls)) (by rw [st_0]; rfl) (by unfold Fl.vis tabT; rw [List.length_map]; omega)
      have pk : putA (Fl.vis D) (.inr p) (.lst (txs ls)) = Fl.vis (putK Fl.path ⟨p, ls, 0⟩ D) := putK_tab Fl.path (fun x => Dat.lst (txs x.lines)) ⟨p, ls, 0⟩ D
      rw [set_end, pk] at w
      rw [← ix] at i1
      refine ⟨rh62 sc F T (some (.fro (.str p))) (sl x5) (sl x6) (sl x7) (some (.fro x8)) (some (.fro (.cel zz.length))), zz ++ [dctA (Fl.vis (putK Fl.path ⟨p, ls, 0⟩ D))], rh62 sc F T (sl (some (.str p))) (sl x5) (sl x6) (sl x7) (some (.fro x8)) (some (.fro (.cel zz.length))), rfl, .inl ?_, _, some (.str p), rfl, rfl, putK_nd _ nd, ?_, fin_ _ fun q => ?_⟩
      · unfold rh62
        generalize dD (Fl.vis F) = V1
        generalize dD (Fl.vis T) = V2 at i1 e1
        generalize dctA (Fl.vis D) = c1 at w ⊢
        generalize dctA (Fl.vis (putK Fl.path ⟨p, ls, 0⟩ D)) = c2 at w ⊢
        generalize Dat.lst (txs ls) = L at e1 w
        simp [i1, e1, w]
      · have := putK_len Fl.path ⟨p, ls, 0⟩ D
        rw [List.length_append, List.length_singleton]
        omega
      · rw [lin_put]
        by_cases h1 : q = p
        · rw [if_pos h1, if_pos h1, h1, hT]
        · rw [if_neg h1, if_neg h1]
    | none =>
      have n1 : p ∉ T.map Fl.path := fun z => lin_in.mp z hT
      rw [decide_eq_false n1] at i1
      rw [← ix] at i1
      have hDp : ∃ ls, lin D p = some ls := by
        rw [hq, if_neg hp0]
        cases h0 : lin F p with
        | some ls => exact ⟨ls, rfl⟩
        | none => exact absurd (h0.trans hT.symm) hd
      obtain ⟨ls, hDp⟩ := hDp
      have e6 : popD (zz ++ [dctA (Fl.vis D)]) (.cel zz.length) (.str p) = .ok (zz ++ [dctA (Fl.vis (outK Fl.path p D))]) (.lst (txs ls)) := by
        have g := vis_lin p D
        rw [hDp] at g
        have q : (zz ++ [dctA (Fl.vis D)])[zz.length]? = some (dctA (Fl.vis D)) := by rw [st_0]; rfl
        have dr : dropA (Fl.vis D) (.inr p) = Fl.vis (outK Fl.path p D) := by unfold Fl.vis; rw [drop_tab]
        rw [popD_at q g, dr, set_end]
      have e7 : isDc (zz ++ [dctA (Fl.vis D)]) (.cel zz.length) = true := by rw [isDc_cel, st_0]; rfl
      refine ⟨rh62 sc F T (some (.fro (.str p))) (sl x5) (sl x6) (sl x7) (some (.fro x8)) (some (.fro (.cel zz.length))), zz ++ [dctA (Fl.vis (outK Fl.path p D))], rh62 sc F T (sl (some (.str p))) (sl x5) (sl x6) (sl x7) (some (.fro x8)) (some (.fro (.cel zz.length))), rfl, .inl ?_, _, some (.str p), rfl, rfl, outK_nd _ nd, ?_, fin_ _ fun q => ?_⟩
      · unfold rh62
        generalize dD (Fl.vis F) = V1
        generalize dD (Fl.vis T) = V2 at i1
        generalize dctA (Fl.vis D) = c1 at e6 e7 ⊢
        generalize dctA (Fl.vis (outK Fl.path p D)) = c2 at e6 ⊢
        simp [i1, e6, e7, -isDc_cel]
      · have := outK_len Fl.path p D
        rw [List.length_append, List.length_singleton]
        omega
      · rw [lin_out]
        by_cases h1 : q = p
        · rw [if_pos h1, if_pos h1, h1, hT]
        · rw [if_neg h1, if_neg h1]) (zz ++ [dctA (Fl.vis F)]) (rh62 sc F T (sl x4) (sl x5) (sl x6) (sl x7) (some (.fro x8)) (some (.fro (.cel zz.length)))) ⟨F, x4, rfl, rfl, n1, by omega, fun q => by rw [if_neg List.not_mem_nil]⟩
  obtain ⟨z', ρ', e1, D, x4', rfl, rfl, e2, _, e3⟩ := lp
  exact ⟨D, x4', e1, e2, e3⟩
end
end
end Pq

namespace Pq
open PySem PySem.Spec PyProof.Rows L2
noncomputable section
theorem nm1 {i j : Nat} (h : i ≠ j) : i ∉ [j] := fun z => h (List.mem_singleton.mp z)
section
variable {sc : Dat} {F T : List Fl}
theorem st62_7 {ns : List Int} {c : Int} (hc : S_k62._law_cell_at [.scr (ns.map Dat.int), .int 12] = some (.ok (.fro (.int c)))) (z : Sto) (x4 x5 : Option SV) (W : List Str) : ∃ m : Nat, m ≤ W.length ∧ lw62_7 z (rh62 (.scr (ns.map Dat.int)) F T x4 x5 (some (.fro (.lst (txs W)))) none none none) = .nx z (rh62 (.scr (ns.map Dat.int)) F T x4 x5 (some (.fro (.lst (txs W)))) (some (.fro (.int m))) none none) := by
  have d0 : (0 : Int) < (W.length : Int) + 1 := by omega
  have b1 := Int.emod_nonneg c (b := (W.length : Int) + 1) (by omega)
  have b2 := Int.emod_lt_of_pos c d0
  refine ⟨(c % ((W.length : Int) + 1)).toNat, by omega, ?_⟩
  rw [Int.toNat_of_nonneg b1]
  unfold lw62_7 rh62
  generalize dD (Fl.vis F) = V1
  generalize dD (Fl.vis T) = V2
  have l : (txs W).length = W.length := txs_len W
  simp [hc, l, d0, frz]
theorem st62_9 (z : Sto) (x4 x5 x6 x7 : Option SV) : lw62_9 z (rh62 sc F T x4 x5 x6 x7 none none) = .nx (z ++ [.dct [] []]) (rh62 sc F T x4 x5 x6 x7 (some (.fro (.cel z.length))) none) := by
  unfold lw62_9 rh62
  generalize dD (Fl.vis F) = V1
  generalize dD (Fl.vis T) = V2
  simp
theorem st62_11 {zz : Sto} {P : List Fl} {R : List (Str × Str)} {m : Nat} (h : DA (zz ++ [dctA (Fl.vis T)]) 0 1 2 P R (some m)) (hz : 2 < zz.length) (hf : ∀ x ∈ P, x.cell < zz.length) (nF : (F.map Fl.path).Nodup) (nT : (T.map Fl.path).Nodup) (hP : P.length ≤ 5) (hT : T.length ≤ 5) (hq : ∀ q, lin P q = lin F q) (x4 x5 : Option SV) :
    ∃ z' P', lw62_11 (zz ++ [dctA (Fl.vis T)]) (rh62 sc F T x4 x5 (some (.fro (.lst (txs (difs F T))))) (some (.fro (.int m))) (some (.fro (.cel zz.length))) none) = .nx z' (rh62 sc F T x4 x5 (some (.fro (.lst (txs (difs F T))))) (some (.fro (.int m))) (some (.fro (dD (Fl.vis T)))) none) ∧
      DA z' 0 1 2 P' R (some (m - (difs F T).length)) ∧ P'.length ≤ 100 ∧ ∀ q, lin P' q = if q ∈ (difs F T).take m then lin T q else lin F q := by
  have at_ : (zz ++ [dctA (Fl.vis T)])[zz.length]? = some (dctA (Fl.vis T)) := by rw [st_0]; rfl
  have sl3 : stl (zz ++ [dctA (Fl.vis T)]) (.cel zz.length) = some ((zz ++ [dctA (Fl.vis T)]).set zz.length .gone, dD (Fl.vis T)) := stl_dct at_ (ncls_vis T)
  rw [set_end] at sl3
  have ks : Keep [zz.length] (zz ++ [dctA (Fl.vis T)]) (zz ++ [.gone]) := by
    have := keep_set (z := zz ++ [dctA (Fl.vis T)]) (i := zz.length) (c := .gone) (S := [zz.length]) (by simp)
    rwa [set_end] at this
  have h2 : DA (zz ++ [.gone]) 0 1 2 P R (some m) := h.keep ks (nm1 (by omega)) (nm1 (by omega)) (nm1 (by omega)) fun x hx => nm1 (by have := hf x hx; omega)
  obtain ⟨z', P', e1, e2, _, e4, e5⟩ := turned_is h2 nT (by omega) (by omega)
  have dd : difs P T = difs F T := by
    have hk : ∀ p, p ∈ P.map Fl.path ↔ p ∈ F.map Fl.path := fun p => by rw [lin_in, lin_in, hq]
    have ha : allP P T = allP F T := srt_perm (perm_mem (addP_nd h.nd nT) (addP_nd nF nT) fun p => by
      have a1 := allP_mem (P := P) (Q := T) (p := p)
      have a2 := allP_mem (P := F) (Q := T) (p := p)
      unfold allP at a1 a2
      rw [(List.mergeSort_perm _ _).mem_iff] at a1 a2
      rw [a1, a2, hk])
    unfold difs
    rw [ha]
    apply List.filter_congr
    intro p _
    unfold dif
    rw [hq]
  rw [dd] at e1 e2 e5
  refine ⟨z', P', ?_, e2, by omega, fun q => by rw [e5, hq]; rfl⟩
  have st : ∀ b : Sto → Rho → RZ, stlTo 8 b (zz ++ [dctA (Fl.vis T)]) (rh62 sc F T x4 x5 (some (.fro (.lst (txs (difs F T))))) (some (.fro (.int m))) (some (.fro (.cel zz.length))) none) = b (zz ++ [.gone]) (rh62 sc F T x4 x5 (some (.fro (.lst (txs (difs F T))))) (some (.fro (.int m))) (some (.fro (dD (Fl.vis T)))) none) := fun b => stlTo_is rfl sl3
  unfold lw62_11
  rw [st]
  have vs := (vis_self nT).1
  have l : (txs (difs F T)).length = (difs F T).length := txs_len _
  have fl : falls (some m) (difs F T).length = decide ((m : Int) < ((difs F T).length : Int)) := by
    show decide (m < (difs F T).length) = _
    by_cases hm : m < (difs F T).length
    · rw [decide_eq_true hm, decide_eq_true (by omega)]
    · rw [decide_eq_false hm, decide_eq_false (by omega)]
  rw [fl] at e1
  unfold rh62
  generalize dD (Fl.vis F) = V1
  generalize dD (Fl.vis T) = V2 at e1 vs ⊢
  generalize txs (difs F T) = L at l ⊢
  simp [e1, vs, l]
end
end
end Pq

namespace Pq
open PySem PySem.Spec PyProof.Rows L2
noncomputable section
section
variable {sc : Dat} {F T : List Fl}
theorem st62_12 (z : Sto) (x4 x5 x6 x7 x8 : Option SV) : lw62_12 z (rh62 sc F T x4 x5 x6 x7 x8 none) = .nx (z ++ [dctA (Fl.vis F)]) (rh62 sc F T x4 x5 x6 x7 x8 (some (.fro (.cel z.length)))) := by
  have e : dictO [dD (Fl.vis F)] = some (oD (Fl.vis F)) := rfl
  have a : alo z (oD (Fl.vis F)) = (z ++ [dctA (Fl.vis F)], .cel z.length) := by
    unfold oD
    rw [alo_od, alos_fro]
    rfl
  unfold lw62_12 rh62
  generalize dD (Fl.vis F) = V1 at e ⊢
  generalize dD (Fl.vis T) = V2
  generalize oD (Fl.vis F) = o at e a
  generalize dctA (Fl.vis F) = c at a ⊢
  simp [e, a]
theorem st62_13 {zz : Sto} (nF : (F.map Fl.path).Nodup) (nT : (T.map Fl.path).Nodup) (hF : F.length ≤ 5) (hT : T.length ≤ 5) (m : Nat) (x4 x5 : Option Dat) (x8 : Dat) :
    ∃ D x4', lw62_13 (zz ++ [dctA (Fl.vis F)]) (rh62 sc F T (sl x4) (sl x5) (sl (some (.lst (txs (difs F T))))) (sl (some (.int m))) (some (.fro x8)) (some (.fro (.cel zz.length)))) =
    .nx (zz ++ [dctA (Fl.vis D)]) (rh62 sc F T (sl x4') (sl x5) (sl (some (.lst (txs (difs F T))))) (sl (some (.int m))) (some (.fro x8)) (some (.fro (.cel zz.length)))) ∧ (D.map Fl.path).Nodup ∧ ∀ q, lin D q = if q ∈ (difs F T).take m then lin T q else lin F q := by
  have nd := difs_nd nF nT
  have lk := List.length_take_le m (difs F T)
  have ld := difs_len F T
  have lt : ((difs F T).take m).length ≤ (difs F T).length := by rw [List.length_take]; omega
  obtain ⟨D, x4', e1, e2, e3⟩ := due_go (sc := sc) (zz := zz) nT ((difs F T).take m) (nd.sublist (List.take_sublist _ _)) (fun p hp => difs_mem.mp (List.mem_of_mem_take hp)) (by omega) nF hF x4 x5 (some (.lst (txs (difs F T)))) (some (.int m)) x8
  refine ⟨D, x4', ?_, e2, e3⟩
  unfold lw62_13
  rw [z_forZ]
  have it : itS (slS (rd 6) noP (prt (rd 7))) (rh62 sc F T (sl x4) (sl x5) (sl (some (.lst (txs (difs F T))))) (sl (some (.int m))) (some (.fro x8)) (some (.fro (.cel zz.length)))) = some (txs ((difs F T).take m)) := by
    have c := cut_to' (difs F T) (i := (m : Int)) (by omega)
    rw [Int.toNat_natCast] at c
    unfold rh62
    generalize dD (Fl.vis F) = V1
    generalize dD (Fl.vis T) = V2
    simp [c]
  have ln : (lif fun _ => itS (slS (rd 6) noP (prt (rd 7)))) (zz ++ [dctA (Fl.vis F)]) (rh62 sc F T (sl x4) (sl x5) (sl (some (.lst (txs (difs F T))))) (sl (some (.int m))) (some (.fro x8)) (some (.fro (.cel zz.length)))) = .ok (zz ++ [dctA (Fl.vis F)]) (txs ((difs F T).take m)) := by
    unfold lif
    simp only [it]
  rw [ln]
  show forGoZ _ _ _ _ _ = _
  exact e1
theorem st62_14 {zz : Sto} {P D : List Fl} {l : Option Nat} (h : DA zz 0 1 2 P [("kind", "text")] l) (hP : P.length ≤ 100) (nD : (D.map Fl.path).Nodup) (hq : ∀ q, lin P q = lin D q) (x4 x5 x6 x7 x8 : Option SV) :
    lw62_14 (zz ++ [dctA (Fl.vis D)]) (rh62 sc F T x4 x5 x6 x7 x8 (some (.fro (.cel zz.length)))) = .nx (zz ++ [dctA (Fl.vis D)]) (rh62 sc F T x4 x5 x6 x7 x8 (some (.fro (.cel zz.length)))) := by
  have h2 : DA (zz ++ [dctA (Fl.vis D)]) 0 1 2 P [("kind", "text")] l := h.keep (S := []) keep_app (by simp) (by simp) (by simp) (by simp)
  have s1 : sn (zz ++ [dctA (Fl.vis D)]) (.cel zz.length) = some (dD (Fl.vis D)) := sn_A (by rw [st_0]; rfl) (ncls_vis D)
  have s2 : sn (zz ++ [dctA (Fl.vis D)]) (dD (Fl.vis P)) = some (dD (Fl.vis P)) := sn_ncl _ (by unfold dD; rw [ncl]; exact ncls_vis P)
  have n1 := now_is h2 (by omega)
  have n2 := book_is h2
  have d1 := disk_in h2 (m := "files_now") (by simp)
  have d2 := disk_in h2 (m := "book_now") (by simp)
  have q1 := (vis_lins h.nd nD hq).1
  have q2 := (rows_eq [("kind", "text")] [("kind", "text")]).2
  rw [decide_eq_true rfl] at q2
  have r0 : rowsD [("kind", "text")] = [.tup [.str "kind", .str "text"]] := rfl
  rw [r0] at n2 q2
  have s3 : sn (zz ++ [dctA (Fl.vis D)]) (.lst [.tup [.str "kind", .str "text"]]) = some (.lst [.tup [.str "kind", .str "text"]]) := sn_ncl _ rfl
  unfold lw62_14 rh62
  generalize zz ++ [dctA (Fl.vis D)] = Z at s1 s2 s3 n1 n2 d1 d2 ⊢
  generalize dD (Fl.vis F) = V1
  generalize dD (Fl.vis T) = V2
  generalize dD (Fl.vis D) = V3 at s1 q1
  generalize dD (Fl.vis P) = V4 at s2 n1 q1
  simp [s1, s2, s3, n1, n2, d1, d2, q1, q2, -sn_cel, -neX_lst]
theorem st62_15 {z : Sto} {P : List Fl} {R : List (Str × Str)} {l : Option Nat} (h : DA z 0 1 2 P R l) {m : Nat} {W : List Str} (hm : m ≤ W.length) (x4 x5 x8 x9 : Option SV) : ∃ z', lw62_15 z (rh62 sc F T x4 x5 (some (.fro (.lst (txs W)))) (some (.fro (.int m))) x8 x9) = .nx z' (rh62 sc F T x4 x5 (some (.fro (.lst (txs W)))) (some (.fro (.int m))) x8 x9) ∧ DA z' 0 1 2 P R (some (W.length - m)) := by
  have e := allow_is h (some (W.length - m))
  have d := disk_in h (m := "allow") (by simp)
  refine ⟨_, ?_, h.setL (some (W.length - m))⟩
  have l : (txs W).length = W.length := txs_len W
  have c : lfD (some (W.length - m)) = .int ((W.length : Int) - (m : Int)) := by
    show Dat.int ((W.length - m : Nat) : Int) = _
    congr 1
    omega
  rw [c] at e
  unfold lw62_15 rh62
  generalize dD (Fl.vis F) = V1
  generalize dD (Fl.vis T) = V2
  simp [d, e, l]
theorem st62_16 {z : Sto} {P : List Fl} {R : List (Str × Str)} {l : Option Nat} (h : DA z 0 1 2 P R l) (hP : P.length ≤ 100) (nT : (T.map Fl.path).Nodup) (hT : T.length ≤ 5) (hl : falls l (difs P T).length = false) (hg : goes l (difs P T) = difs P T) (x4 x5 x6 x7 x8 x9 : Option SV) : ∃ z' P', lw62_16 z (rh62 sc F T x4 x5 x6 x7 x8 x9) = .nx z' (rh62 sc F T x4 x5 x6 x7 x8 x9) ∧ DA z' 0 1 2 P' R (after l (difs P T).length) ∧ P'.length ≤ 400 ∧ ∀ q, lin P' q = lin T q := by
  obtain ⟨z', P', e1, e2, _, e4, e5⟩ := turned_is h nT (by omega) (by omega)
  rw [hl] at e1
  rw [hg] at e5
  have hq : ∀ q, lin P' q = lin T q := fun q => by
    rw [e5]
    by_cases hm : q ∈ difs P T
    · rw [if_pos hm]
    · rw [if_neg hm]
      exact Decidable.not_not.mp fun z => hm (difs_mem.mpr z)
  refine ⟨z', P', ?_, e2, by omega, hq⟩
  have n1 := now_is e2 (by omega)
  have d1 := disk_in e2 (m := "files_now") (by simp)
  have q1 := (vis_lins e2.nd nT hq).1
  have s1 : sn z' (dD (Fl.vis P')) = some (dD (Fl.vis P')) := sn_ncl _ (by unfold dD; rw [ncl]; exact ncls_vis P')
  have s2 : sn z' (dD (Fl.vis T)) = some (dD (Fl.vis T)) := sn_ncl _ (by unfold dD; rw [ncl]; exact ncls_vis T)
  unfold lw62_16 rh62
  generalize dD (Fl.vis F) = V1
  generalize dD (Fl.vis T) = V2 at e1 q1 s2 ⊢
  generalize dD (Fl.vis P') = V4 at n1 q1 s1
  simp [e1, n1, d1, q1, s1, s2]
theorem st62_17 {z : Sto} {P : List Fl} {R : List (Str × Str)} {l : Option Nat} (h : DA z 0 1 2 P R l) (x4 x5 x6 x7 x8 x9 : Option SV) : ∃ z', lw62_17 z (rh62 sc F T x4 x5 x6 x7 x8 x9) = .nx z' (rh62 sc F T x4 x5 x6 x7 x8 x9) ∧ DA z' 0 1 2 P R (some 0) := by
  have e := allow_is h (some 0)
  have d := disk_in h (m := "allow") (by simp)
  refine ⟨_, ?_, h.setL (some 0)⟩
  have e : S.Disk_allow z [.cel 0, .int 0] = _ := e
  unfold lw62_17 rh62
  generalize dD (Fl.vis F) = V1
  generalize dD (Fl.vis T) = V2
  simp [d, e]
theorem st62_18 {z : Sto} {P : List Fl} {R : List (Str × Str)} (h : DA z 0 1 2 P R (some 0)) (hP : P.length ≤ 400) (nT : (T.map Fl.path).Nodup) (hT : T.length ≤ 5) (hq : ∀ q, lin P q = lin T q) (x4 x5 x6 x7 x8 x9 : Option SV) : ∃ z', lw62_18 z (rh62 sc F T x4 x5 x6 x7 x8 x9) = .ret z' (.bl true) := by
  obtain ⟨z', P', e1, _, _, _, _⟩ := turned_is h nT (by omega) (by omega)
  have d0 : difs P T = [] := by
    cases hd : difs P T with
    | nil => rfl
    | cons p W =>
      have : p ∈ difs P T := by rw [hd]; exact List.mem_cons_self
      exact absurd (hq p) (difs_mem.mp this)
  rw [d0, List.length_nil, falls_0] at e1
  refine ⟨z', ?_⟩
  unfold lw62_18 rh62
  generalize dD (Fl.vis F) = V1
  generalize dD (Fl.vis T) = V2 at e1 ⊢
  simp [e1]
end
theorem K62_law_true (ns : List Int) (hns : ns.length ≤ 63) : ∃ z, S_k62.law [] [.scr (ns.map Dat.int)] = some (.ok z (.bl true)) := by
  obtain ⟨c0, hc0⟩ := cell_at ns 0
  obtain ⟨c12, hc12⟩ := cell_at ns 12
  have hc0 : S_k62._law_cell_at [.scr (ns.map Dat.int), .int 0] = some (.ok (.fro (.int c0))) := hc0
  have hc12 : S_k62._law_cell_at [.scr (ns.map Dat.int), .int 12] = some (.ok (.fro (.int c12))) := hc12
  obtain ⟨F, f1, nF, lF⟩ := files_is ns 1 (by omega) c0
  have f1 : S_k62._law_files [.scr (ns.map Dat.int), .int 1, .int c0] = some (.ok (oW (Fl.vis F))) := f1
  obtain ⟨T, f2, nT, lT⟩ := files_is ns (1 + c0 % 4).toNat (by omega) (c0 / 4)
  rw [Int.toNat_of_nonneg (by omega)] at f2
  have fz : ∀ X : List Fl, frz (oW (Fl.vis X)) = dD (Fl.vis X) := fun X => frz_oW _
  have t0 : lw62_0 [] [some (.fro (.scr (ns.map Dat.int))), none, none, none, none, none, none, none, none, none] = .nx [] [some (.fro (.scr (ns.map Dat.int))), some (.fro (dD (Fl.vis F))), none, none, none, none, none, none, none, none] := by
    have z0 := fz F
    unfold lw62_0
    generalize dD (Fl.vis F) = V1 at z0 ⊢
    simp [hc0, f1, z0, frz]
  have t1 : lw62_1 [] [some (.fro (.scr (ns.map Dat.int))), some (.fro (dD (Fl.vis F))), none, none, none, none, none, none, none, none] = .nx [] [some (.fro (.scr (ns.map Dat.int))), some (.fro (dD (Fl.vis F))), some (.fro (dD (Fl.vis T))), none, none, none, none, none, none, none] := by
    have z0 := fz T
    unfold lw62_1
    generalize dD (Fl.vis F) = V1
    generalize dD (Fl.vis T) = V2 at z0 ⊢
    simp [hc0, f2, z0, frz]
  have i1 : S.Disk_init [Cel.obj "Disk" [] []] [.cel 0] = some (.ok [dkO 1 2 none, .dct [] [], .lst []] .non) := disk_init []
  have t2 : lw62_2 [] [some (.fro (.scr (ns.map Dat.int))), some (.fro (dD (Fl.vis F))), some (.fro (dD (Fl.vis T))), none, none, none, none, none, none, none] = .nx [dkO 1 2 none, .dct [] [], .lst []] (rh62 (.scr (ns.map Dat.int)) F T none none none none none none) := by
    unfold lw62_2 rh62
    generalize dD (Fl.vis F) = V1
    generalize dD (Fl.vis T) = V2
    simp [mkZ, i1]
  have w0 : DA [dkO 1 2 none, .dct [] [], .lst []] 0 1 2 [] [] none := ⟨rfl, rfl, rfl, (fun x hx => by cases hx), List.Pairwise.nil⟩
  obtain ⟨z3, P, x4, x5, t3, w3, lP, hq⟩ := st62_3 (sc := .scr (ns.map Dat.int)) (T := T) nF lF w0
  obtain ⟨z4, t4, w4⟩ := st62_4 (sc := .scr (ns.map Dat.int)) (F := F) (T := T) w3 (sl x4) (sl x5)
  have t5 := st62_5 (sc := .scr (ns.map Dat.int)) nF nT lF lT z4 (sl x4) (sl x5)
  have t6 := st62_6 (sc := .scr (ns.map Dat.int)) nF nT lF lT z4 x4 x5
  obtain ⟨m, hm, t7⟩ := st62_7 (F := F) (T := T) hc12 z4 (sl x4) (sl x5) (difs F T)
  obtain ⟨z8, t8, w8⟩ := st62_8 (sc := .scr (ns.map Dat.int)) (F := F) (T := T) w4 m (sl x4) (sl x5) (some (.fro (.lst (txs (difs F T)))))
  have t9 := st62_9 (sc := .scr (ns.map Dat.int)) (F := F) (T := T) z8 (sl x4) (sl x5) (some (.fro (.lst (txs (difs F T))))) (some (.fro (.int m)))
  obtain ⟨y4, y5, t10⟩ := st62_10 (sc := .scr (ns.map Dat.int)) (F := F) nT lT z8 x4 x5 (some (.lst (txs (difs F T)))) (some (.int m))
  have w10 : DA (z8 ++ [dctA (Fl.vis T)]) 0 1 2 P [("kind", "text")] (some m) := w8.keep (S := []) keep_app (by simp) (by simp) (by simp) (by simp)
  obtain ⟨z11, P1, t11, w11, l11, q11⟩ := st62_11 (sc := .scr (ns.map Dat.int)) w10 (at_lt w8.rw_) (fun x hx => at_lt (w8.fl x hx).1) nF nT lP lT hq (sl y4) (sl y5)
  have t12 := st62_12 (sc := .scr (ns.map Dat.int)) (F := F) (T := T) z11 (sl y4) (sl y5) (some (.fro (.lst (txs (difs F T))))) (some (.fro (.int m))) (some (.fro (dD (Fl.vis T))))
  obtain ⟨D, v4, t13, nD, qD⟩ := st62_13 (sc := .scr (ns.map Dat.int)) (zz := z11) nF nT lF lT m y4 y5 (dD (Fl.vis T))
  have t14 := st62_14 (sc := .scr (ns.map Dat.int)) (F := F) (T := T) w11 l11 nD (fun q => by rw [q11, qD]) (sl v4) (sl y5) (some (.fro (.lst (txs (difs F T))))) (some (.fro (.int m))) (some (.fro (dD (Fl.vis T))))
  have w14 : DA (z11 ++ [dctA (Fl.vis D)]) 0 1 2 P1 [("kind", "text")] (some (m - (difs F T).length)) := w11.keep (S := []) keep_app (by simp) (by simp) (by simp) (by simp)
  obtain ⟨z15, t15, w15⟩ := st62_15 (sc := .scr (ns.map Dat.int)) (F := F) (T := T) w14 hm (sl v4) (sl y5) (some (.fro (dD (Fl.vis T)))) (some (.fro (.cel z11.length)))
  have lr := difs_rest w15.nd nF nT q11
  obtain ⟨z16, P2, t16, w16, l16, q16⟩ := st62_16 (sc := .scr (ns.map Dat.int)) (F := F) w15 l11 nT lT (by rw [lr]; simp [falls]) (by rw [← lr]; simp [goes]) (sl v4) (sl y5) (some (.fro (.lst (txs (difs F T))))) (some (.fro (.int m))) (some (.fro (dD (Fl.vis T)))) (some (.fro (.cel z11.length)))
  obtain ⟨z17, t17, w17⟩ := st62_17 (sc := .scr (ns.map Dat.int)) (F := F) (T := T) w16 (sl v4) (sl y5) (some (.fro (.lst (txs (difs F T))))) (some (.fro (.int m))) (some (.fro (dD (Fl.vis T)))) (some (.fro (.cel z11.length)))
  obtain ⟨z18, t18⟩ := st62_18 (sc := .scr (ns.map Dat.int)) (F := F) w17 l16 nT lT q16 (sl v4) (sl y5) (some (.fro (.lst (txs (difs F T))))) (some (.fro (.int m))) (some (.fro (dD (Fl.vis T)))) (some (.fro (.cel z11.length)))
  refine ⟨z18, ?_⟩
  have s0 : startR 10 [.scr (ns.map Dat.int)] = [some (.fro (.scr (ns.map Dat.int))), none, none, none, none, none, none, none, none, none] := rfl
  unfold S_k62.law
  rw [lw62__eq, z_fnZ, if_pos (show [Dat.scr (ns.map Dat.int)].length = 1 from rfl), s0]
  simp only [sl_none, sl_some] at t3 t4 t5 t6 t7 t8 t9 t10 t11 t12 t13 t14 t15 t16 t17 t18
  rw [z_seqZ, t0, thz, z_seqZ, t1, thz, z_seqZ, t2, thz, z_seqZ, t3, thz, z_seqZ, t4, thz, z_seqZ, t5, thz, z_seqZ, t6, thz, z_seqZ, t7, thz, z_seqZ, t8, thz, z_seqZ, t9, thz, z_seqZ, t10, thz, z_seqZ, t11, thz, z_seqZ, t12, thz, z_seqZ, t13, thz, z_seqZ, t14, thz, z_seqZ, t15, thz, z_seqZ, t16, thz, z_seqZ, t17, thz, t18]
  rfl
end
end Pq


namespace Pq
namespace K62
open PySem PySem.Spec PyProof.Rows L2
def top (i : Nat) : Stmt := PySem.Challenge.pw_parcelmend_k62_turned_to_a_tree.main.body.getD i (.Pass ⟨0, 0, 0, 0⟩)
abbrev s2 : Stmt := inClass (top 6) 1
abbrev s5 : Stmt := inClass (top 6) 4
abbrev s6 : Stmt := inClass (top 6) 5
abbrev s7 : Stmt := inClass (top 6) 6
abbrev s0 : Stmt := top 4
abbrev s1 : Stmt := inClass (top 6) 0
abbrev s3 : Stmt := inClass (top 6) 2
abbrev s4 : Stmt := inClass (top 6) 3
abbrev s8 : Stmt := inClass (top 6) 7
abbrev s9 : Stmt := top 8
abbrev s10 : Stmt := top 9
abbrev s11 : Stmt := top 10
abbrev s12 : Stmt := top 11
abbrev s13 : Stmt := top 12
abbrev s14 : Stmt := top 13
abbrev s15 : Stmt := top 14
abbrev s16 : Stmt := top 15
theorem sc2 : FnScope ["self", "found", "path", "lines"] ["self"] (defScope s2) := ⟨rfl, rfl, rfl, by decide +kernel, rfl, by decide +kernel, by decide +kernel⟩
theorem sc5 : FnScope ["self"] ["self"] (defScope s5) := ⟨rfl, rfl, rfl, by decide +kernel, rfl, by decide +kernel, by decide +kernel⟩
theorem sc6 : FnScope ["self", "path", "lines"] ["self", "path", "lines"] (defScope s6) := ⟨rfl, rfl, rfl, by decide +kernel, rfl, by decide +kernel, by decide +kernel⟩
theorem sc7 : FnScope ["self", "path"] ["self", "path"] (defScope s7) := ⟨rfl, rfl, rfl, by decide +kernel, rfl, by decide +kernel, by decide +kernel⟩
theorem sc0 : FnScope ["disk", "tree", "files", "path"] ["disk", "tree"] (defScope s0) := ⟨rfl, rfl, rfl, by decide +kernel, rfl, by decide +kernel, by decide +kernel⟩
theorem sc1 : FnScope ["self"] ["self"] (defScope s1) := ⟨rfl, rfl, rfl, by decide +kernel, rfl, by decide +kernel, by decide +kernel⟩
theorem sc3 : FnScope ["self"] ["self"] (defScope s3) := ⟨rfl, rfl, rfl, by decide +kernel, rfl, by decide +kernel, by decide +kernel⟩
theorem sc4 : FnScope ["self", "many"] ["self", "many"] (defScope s4) := ⟨rfl, rfl, rfl, by decide +kernel, rfl, by decide +kernel, by decide +kernel⟩
theorem sc8 : FnScope ["self", "kind", "text"] ["self", "kind", "text"] (defScope s8) := ⟨rfl, rfl, rfl, by decide +kernel, rfl, by decide +kernel, by decide +kernel⟩
theorem sc9 : FnScope ["_law_script", "_law_k"] ["_law_script", "_law_k"] (defScope s9) := ⟨rfl, rfl, rfl, by decide +kernel, rfl, by decide +kernel, by decide +kernel⟩
theorem sc10 : FnScope ["_law_cell", "_law_k", "_law_number"] ["_law_cell", "_law_k"] (defScope s10) := ⟨rfl, rfl, rfl, by decide +kernel, rfl, by decide +kernel, by decide +kernel⟩
theorem sc11 : FnScope ["_law_number", "_law_some", "_law_many", "_law_k"] ["_law_number"] (defScope s11) := ⟨rfl, rfl, rfl, by decide +kernel, rfl, by decide +kernel, by decide +kernel⟩
theorem sc12 : FnScope ["_law_number", "_law_some", "_law_k"] ["_law_number"] (defScope s12) := ⟨rfl, rfl, rfl, by decide +kernel, rfl, by decide +kernel, by decide +kernel⟩
theorem sc13 : FnScope ["_law_number", "_law_some", "_law_way"] ["_law_number"] (defScope s13) := ⟨rfl, rfl, rfl, by decide +kernel, rfl, by decide +kernel, by decide +kernel⟩
theorem sc14 : FnScope ["_law_script", "_law_start", "_law_cell", "_law_found", "_law_k", "_law_number"] ["_law_script", "_law_start", "_law_cell"] (defScope s14) := ⟨rfl, rfl, rfl, by decide +kernel, rfl, by decide +kernel, by decide +kernel⟩
theorem sc15 : FnScope ["_law_disk", "_law_tree", "_law_fell"] ["_law_disk", "_law_tree"] (defScope s15) := ⟨rfl, rfl, rfl, by decide +kernel, rfl, by decide +kernel, by decide +kernel⟩
theorem sc16 : FnScope ["_law_script", "_law_files_here", "_law_tree", "_law_disk", "_law_path_here", "_law_lines_here", "_law_paths", "_law_many", "_law_handed", "_law_due"] ["_law_script"] (defScope s16) := ⟨rfl, rfl, rfl, by decide +kernel, rfl, by decide +kernel, by decide +kernel⟩
theorem hn1 : ∀ z ds z' d, S.Disk_init z ds = some (.ok z' d) → d = .non := hnZ (by unfold S.Disk_init_b; repeat first | exact nr_fput | refine nr_seq nr_fput ?_)
structure Txt (K : PySem.W.Frag) (mg : Str → Option Value) (cm : Str → Addr) (fa : Nat → Addr) (fd : Nat → FuncData) : Prop where
  d2 : Mtd K "files_now" "Disk.files_now" s2 (fa 2) (fd 2) ["self"]
  d5 : Mtd K "spend" "Disk.spend" s5 (fa 5) (fd 5) ["self"]
  d6 : Mtd K "put" "Disk.put" s6 (fa 6) (fd 6) ["self", "path", "lines"]
  d7 : Mtd K "erase" "Disk.erase" s7 (fa 7) (fd 7) ["self", "path"]
  d0 : Dfn K mg "turn_to" "turn_to" s0 (fa 0) (fd 0) ["disk", "tree"]
  d1 : Mtd K "__init__" "Disk.__init__" s1 (fa 1) (fd 1) ["self"]
  d3 : Mtd K "book_now" "Disk.book_now" s3 (fa 3) (fd 3) ["self"]
  d4 : Mtd K "allow" "Disk.allow" s4 (fa 4) (fd 4) ["self", "many"]
  d8 : Mtd K "note" "Disk.note" s8 (fa 8) (fd 8) ["self", "kind", "text"]
  d9 : Dfn K mg "_law_cell_at" "_law_cell_at" s9 (fa 9) (fd 9) ["_law_script", "_law_k"]
  d10 : Dfn K mg "_law_mixed" "_law_mixed" s10 (fa 10) (fd 10) ["_law_cell", "_law_k"]
  d11 : Dfn K mg "_law_line" "_law_line" s11 (fa 11) (fd 11) ["_law_number"]
  d12 : Dfn K mg "_law_lines" "_law_lines" s12 (fa 12) (fd 12) ["_law_number"]
  d13 : Dfn K mg "_law_path" "_law_path" s13 (fa 13) (fd 13) ["_law_number"]
  d14 : Dfn K mg "_law_files" "_law_files" s14 (fa 14) (fd 14) ["_law_script", "_law_start", "_law_cell"]
  d15 : Dfn K mg "_law_turned" "_law_turned" s15 (fa 15) (fd 15) ["_law_disk", "_law_tree"]
  d16 : Dfn K mg "law" "law" s16 (fa 16) (fd 16) ["_law_script"]
  c_Disk : Cls K (cm "Disk")
  m_Disk : mg "Disk" = some (.ref (cm "Disk"))
  k_Disk : Mk K (cm "Disk") (fa 1)
  n_Disk_kept : NoAttr K (cm "Disk") "kept"
  n_Disk_rows : NoAttr K (cm "Disk") "rows"
  n_Disk_left : NoAttr K (cm "Disk") "left"
  t_Disk_files_now : Meth K (cm "Disk") "files_now" (fa 2)
  t_Disk_erase : Meth K (cm "Disk") "erase" (fa 7)
  t_Disk_put : Meth K (cm "Disk") "put" (fa 6)
  t_Disk_spend : Meth K (cm "Disk") "spend" (fa 5)
  t_Disk_note : Meth K (cm "Disk") "note" (fa 8)
  t_Disk_allow : Meth K (cm "Disk") "allow" (fa 4)
  t_Disk_book_now : Meth K (cm "Disk") "book_now" (fa 3)
  f_kept : ∀ c : Str, c ∈ (["Disk"] : List Str) → Cls K (cm c) ∧ NoAttr K (cm c) "kept"
  f_rows : ∀ c : Str, c ∈ (["Disk"] : List Str) → Cls K (cm c) ∧ NoAttr K (cm c) "rows"
  f_left : ∀ c : Str, c ∈ (["Disk"] : List Str) → Cls K (cm c) ∧ NoAttr K (cm c) "left"
  z_dict : mg "dict" = none
  z_len : mg "len" = none
  z_list : mg "list" = none
  z_range : mg "range" = none
  z_set : mg "set" = none
  z_sorted : mg "sorted" = none
  er : ErrK K mg cm ["Fallen"] ["MendError", "Fallen"]
section
variable {P : Program} {w : World} {K : PySem.W.Frag} {mg : Str → Option Value} {base : Heap} {cm : Str → Addr} {fa : Nat → Addr} {fd : Nat → FuncData}
theorem ok2 (T : Txt K mg cm fa fd) (t : Nat → Option Addr) (z : Sto) : FnOk P w K mg base (L2.CX P w) 1 (fa 2) (fd 2) ["self"] (spX K ⟨cm, t, z⟩ S.Disk_files_now) :=
  fn_x (N := ["self", "found", "path", "lines"]) (ps := ["self"]) (b := S.Disk_files_now_b) rfl T.d2.F sc2 fun cdv A outer s H E W hr =>
    (p_cons (p_setO (i := 1) sc2.nd rfl (Or.inl rfl) o_dnew)
    (p_cons (p_forItems PassesOwn.never rfl (pt_f (pe_var (i := 0) rfl (.inl rfl))) (ok_f (cs := ["Disk"]) 0 T.f_kept) (g_tup rfl (gs_cons (g_name (i := 2) sc2.nd rfl (Or.inl rfl)) (gs_cons (g_name (i := 3) sc2.nd rfl (Or.inl rfl)) gs_nil))) (p_one (p_setDP 1 [] (hu_of hr) (pc_name 1 (pe_var (i := 1) rfl (.inl rfl))) (ev 2 rfl (.inl rfl)) (o_list rfl T.z_list (a_cons (ev 3 rfl (.inl rfl)) a_nil)))))
    (p_one (p_retV 1 (pe_var (i := 1) rfl (.inl rfl))))))
theorem ok5 (T : Txt K mg cm fa fd) : FnOk P w K mg base (L2.CX P w) 1 (fa 5) (fd 5) ["self"] (spZ K cm S.Disk_spend) :=
  fn_z (N := ["self"]) (ps := ["self"]) (b := S.Disk_spend_b) rfl T.d5.F sc5 fun cdv A outer s H E hr tk hp =>
    (z_cons (z_if (zt_isN (z_fld (cs := ["Disk"]) T.f_left (ze (fun _ => (rd 0)) fun _ _ => (ev 0 rfl (.inl rfl))))) (z_one z_retN) z_nil)
    (z_cons (z_if (zt_cmp (op_eqX (u70 hr)) od_eqX (z_fld (cs := ["Disk"]) T.f_left (ze (fun _ => (rd 0)) fun _ _ => (ev 0 rfl (.inl rfl)))) (ze (fun _ => (kD (.int 0))) fun _ _ => e_int) (nomark _)) (z_one (z_raise rfl tk (er_raise T.er (x := "Fallen") (by decide +kernel) rfl))) z_nil)
    (z_one (z_fput (cs := ["Disk"]) T.f_left (ze (fun _ => (rd 0)) fun _ _ => (ev 0 rfl (.inl rfl))) (z_op op_sub od_sub (z_fld (cs := ["Disk"]) T.f_left (ze (fun _ => (rd 0)) fun _ _ => (ev 0 rfl (.inl rfl)))) (ze (fun _ => (kD (.int 1))) fun _ _ => e_int))))))
theorem ok6 (T : Txt K mg cm fa fd) : FnOk P w K mg base (L2.CX P w) 2 (fa 6) (fd 6) ["self", "path", "lines"] (spZ K cm S.Disk_put) :=
  fn_z (N := ["self", "path", "lines"]) (ps := ["self", "path", "lines"]) (b := S.Disk_put_b) rfl T.d6.F sc6 fun cdv A outer s H E hr tk hp =>
    (z_cons (z_expr (z_meth0 (cn := "Disk") tk T.c_Disk T.t_Disk_spend (ok5 T) (hr.mono (by decide)) T.d5.b (ze (fun _ => (rd 0)) fun _ _ => (ev 0 rfl (.inl rfl)))))
    (z_one (z_dput (hu_of hr) (z_fld (cs := ["Disk"]) T.f_kept (ze (fun _ => (rd 0)) fun _ _ => (ev 0 rfl (.inl rfl)))) (ze (fun _ => (rd 1)) fun _ _ => (ev 1 rfl (.inl rfl))) (z_snC (o_list rfl T.z_list (a_cons (ev 2 rfl (.inl rfl)) a_nil))))))
theorem ok7 (T : Txt K mg cm fa fd) : FnOk P w K mg base (L2.CX P w) 2 (fa 7) (fd 7) ["self", "path"] (spZ K cm S.Disk_erase) :=
  fn_z (N := ["self", "path"]) (ps := ["self", "path"]) (b := S.Disk_erase_b) rfl T.d7.F sc7 fun cdv A outer s H E hr tk hp =>
    (z_cons (z_expr (z_meth0 (cn := "Disk") tk T.c_Disk T.t_Disk_spend (ok5 T) (hr.mono (by decide)) T.d5.b (ze (fun _ => (rd 0)) fun _ _ => (ev 0 rfl (.inl rfl)))))
    (z_one (z_if (zt_cmp (op_inX (u70 hr)) od_inX (ze (fun _ => (rd 1)) fun _ _ => (ev 1 rfl (.inl rfl))) (z_fld (cs := ["Disk"]) T.f_kept (ze (fun _ => (rd 0)) fun _ _ => (ev 0 rfl (.inl rfl))))) (z_one (z_expr (z_dpop1 (z_fld (cs := ["Disk"]) T.f_kept (ze (fun _ => (rd 0)) fun _ _ => (ev 0 rfl (.inl rfl)))) (ze (fun _ => (rd 1)) fun _ _ => (ev 1 rfl (.inl rfl)))))) z_nil)))
theorem ok0 (T : Txt K mg cm fa fd) : FnOk P w K mg base (L2.CX P w) 3 (fa 0) (fd 0) ["disk", "tree"] (spZ K cm S.turn_to) :=
  fn_z (N := ["disk", "tree", "files", "path"]) (ps := ["disk", "tree"]) (b := S.turn_to_b) rfl T.d0.F sc0 fun cdv A outer s H E hr tk hp =>
    (z_cons (z_set (i := 2) sc0.nd rfl (Or.inr rfl) (z_meth0 (cn := "Disk") tk T.c_Disk T.t_Disk_files_now (ok_snp (ok2 T _ _)) (hr.mono (by decide)) T.d2.b (ze (fun _ => (rd 0)) fun _ _ => (ev 0 rfl (.inl rfl)))))
    (z_one (z_for hp rfl (zi (fun _ => (itS (app sortQ (consA (bin addD (app listKD (consA (rd 2) nilA)) (fun ρ => (lcDL Lkey (rd 1) [3] (hName 3) (tst (bin ninX (rd 3) (rd 2))) (rd 3) ρ).map Dat.lst)) nilA)))) fun _ _ => (i_seq (e_sortX rfl hr.units rfl T.z_sorted (a_cons (e_add (e_listK rfl rfl T.z_list (a_cons (ev 2 rfl (.inr (.inl rfl))) a_nil)) (e_lcK (own := [("path", 3)]) (vs := [3]) rfl rfl sc0.nd (pt_v (pe_var (i := 1) rfl (.inl rfl))) (ok_v _ 1) (blkOk_by (N := ["disk", "tree", "files", "path"]) (sc := defScope s0) (own := [("path", 3)]) (by decide +kernel)) (by decide) (fun _ _ _ _ _ => (g_name (i := 3) sc0.nd rfl (Or.inl rfl))) (fun _ _ _ _ _ => (ts_one (t_ninX (u70 hr) (ev 3 rfl (.inl rfl)) (ev 2 rfl (.inr (.inl rfl)))))) (fun _ _ _ _ _ => (ev 3 rfl (.inl rfl))))) a_nil)))) (fun _ _ => (g_name (i := 3) sc0.nd rfl (Or.inl rfl))) (z_one (z_if (zt (fun _ => (tst (bin ninX (rd 3) (rd 1)))) fun _ _ => (t_ninX (u70 hr) (ev 3 rfl (.inl rfl)) (ev 1 rfl (.inl rfl)))) (z_one (z_expr (z_meth (cn := "Disk") tk T.c_Disk T.t_Disk_erase (ok7 T) (hr.mono (by decide)) T.d7.b (ze (fun _ => (rd 0)) fun _ _ => (ev 0 rfl (.inl rfl))) (za_cons (ze (fun _ => (rd 3)) fun _ _ => (ev 3 rfl (.inl rfl))) za_nil)))) (z_one (z_if (zt (fun _ => (or2 (tst (bin ninX (rd 3) (rd 2))) (tst (bin neX (bin subD' (rd 2) (rd 3)) (bin subD' (rd 1) (rd 3)))))) fun _ _ => (L2.PW.pt (w_or (t_ninX (u70 hr) (ev 3 rfl (.inl rfl)) (ev 2 rfl (.inr (.inl rfl)))) (w_or1 (t_neX (u70 hr) (e_sub' (hu_of hr) (ev 2 rfl (.inr (.inl rfl))) (ev 3 rfl (.inl rfl))) (e_sub' (hu_of hr) (ev 1 rfl (.inl rfl)) (ev 3 rfl (.inl rfl)))))))) (z_one (z_expr (z_meth (cn := "Disk") tk T.c_Disk T.t_Disk_put (ok6 T) (hr.mono (by decide)) T.d6.b (ze (fun _ => (rd 0)) fun _ _ => (ev 0 rfl (.inl rfl))) (za_cons (ze (fun _ => (rd 3)) fun _ _ => (ev 3 rfl (.inl rfl))) (za_cons (ze (fun _ => (bin subD' (rd 1) (rd 3))) fun _ _ => (e_sub' (hu_of hr) (ev 1 rfl (.inl rfl)) (ev 3 rfl (.inl rfl)))) za_nil))))) z_nil)))))))
theorem ok1 (T : Txt K mg cm fa fd) : FnOk P w K mg base (L2.CX P w) 1 (fa 1) (fd 1) ["self"] (spZ K cm S.Disk_init) :=
  fn_z (N := ["self"]) (ps := ["self"]) (b := S.Disk_init_b) rfl T.d1.F sc1 fun cdv A outer s H E hr tk hp =>
    (z_cons (z_fput (cs := ["Disk"]) T.f_kept (ze (fun _ => (rd 0)) fun _ _ => (ev 0 rfl (.inl rfl))) (z_alo (fun _ => (fun _ => some (.od [] []))) fun _ _ => o_dnew))
    (z_cons (z_fput (cs := ["Disk"]) T.f_rows (ze (fun _ => (rd 0)) fun _ _ => (ev 0 rfl (.inl rfl))) (z_alo (fun _ => (lstO nilO)) fun _ _ => (o_lst ao_nil)))
    (z_one (z_fput (cs := ["Disk"]) T.f_left (ze (fun _ => (rd 0)) fun _ _ => (ev 0 rfl (.inl rfl))) (ze (fun _ => (kD .non)) fun _ _ => e_non)))))
theorem ok3 (T : Txt K mg cm fa fd) (t : Nat → Option Addr) (z : Sto) : FnOk P w K mg base (L2.CX P w) 1 (fa 3) (fd 3) ["self"] (spX K ⟨cm, t, z⟩ S.Disk_book_now) :=
  fn_x (N := ["self"]) (ps := ["self"]) (b := S.Disk_book_now_b) rfl T.d3.F sc3 fun cdv A outer s H E W hr =>
    (p_one (p_retO (o_list rfl T.z_list (a_cons (e_fld (cs := ["Disk"]) T.f_rows (ev 0 rfl (.inl rfl))) a_nil))))
theorem ok4 (T : Txt K mg cm fa fd) : FnOk P w K mg base (L2.CX P w) 1 (fa 4) (fd 4) ["self", "many"] (spZ K cm S.Disk_allow) :=
  fn_z (N := ["self", "many"]) (ps := ["self", "many"]) (b := S.Disk_allow_b) rfl T.d4.F sc4 fun cdv A outer s H E hr tk hp =>
    (z_one (z_fput (cs := ["Disk"]) T.f_left (ze (fun _ => (rd 0)) fun _ _ => (ev 0 rfl (.inl rfl))) (ze (fun _ => (rd 1)) fun _ _ => (ev 1 rfl (.inl rfl)))))
theorem ok8 (T : Txt K mg cm fa fd) : FnOk P w K mg base (L2.CX P w) 2 (fa 8) (fd 8) ["self", "kind", "text"] (spZ K cm S.Disk_note) :=
  fn_z (N := ["self", "kind", "text"]) (ps := ["self", "kind", "text"]) (b := S.Disk_note_b) rfl T.d8.F sc8 fun cdv A outer s H E hr tk hp =>
    (z_cons (z_expr (z_meth0 (cn := "Disk") tk T.c_Disk T.t_Disk_spend (ok5 T) (hr.mono (by decide)) T.d5.b (ze (fun _ => (rd 0)) fun _ _ => (ev 0 rfl (.inl rfl)))))
    (z_one (z_expr (z_append (z_fld (cs := ["Disk"]) T.f_rows (ze (fun _ => (rd 0)) fun _ _ => (ev 0 rfl (.inl rfl)))) (ze (fun _ => (tupS (consA (rd 1) (consA (rd 2) nilA)))) fun _ _ => (e_tup (a_cons (ev 1 rfl (.inl rfl)) (a_cons (ev 2 rfl (.inl rfl)) a_nil))))))))
theorem ok9 (T : Txt K mg cm fa fd) (t : Nat → Option Addr) (z : Sto) : FnOk P w K mg base (L2.CX P w) 1 (fa 9) (fd 9) ["_law_script", "_law_k"] (spX K ⟨cm, t, z⟩ S_k62._law_cell_at) :=
  fn_x (N := ["_law_script", "_law_k"]) (ps := ["_law_script", "_law_k"]) (b := S_k62._law_cell_at_b) rfl T.d9.F sc9 fun cdv A outer s H E W hr =>
    (p_cons (p_if (t_ltX hr.units (ev 1 rfl (.inl rfl)) (e_len rfl T.z_len (a_cons (ev 0 rfl (.inl rfl)) a_nil))) (p_one (p_ret (e_sub' (hu_of hr) (ev 0 rfl (.inl rfl)) (ev 1 rfl (.inl rfl))))) p_nil)
    (p_one (p_ret e_int)))
theorem ok10 (T : Txt K mg cm fa fd) (t : Nat → Option Addr) (z : Sto) : FnOk P w K mg base (L2.CX P w) 1 (fa 10) (fd 10) ["_law_cell", "_law_k"] (spX K ⟨cm, t, z⟩ S_k62._law_mixed) :=
  fn_x (N := ["_law_cell", "_law_k", "_law_number"]) (ps := ["_law_cell", "_law_k"]) (b := S_k62._law_mixed_b) rfl T.d10.F sc10 fun cdv A outer s H E W hr =>
    (p_cons (p_set (i := 2) sc10.nd rfl (Or.inl rfl) (e_mod (e_mulX (e_add (e_add (e_mod (ev 0 rfl (.inl rfl)) e_int) (e_mulX e_int (ev 1 rfl (.inl rfl)))) e_int) e_int) e_int))
    (p_one (p_ret (e_mod (e_mulX (ev 2 rfl (.inl rfl)) (e_add (e_div (ev 2 rfl (.inl rfl)) e_int) e_int)) e_int))))
theorem ok11 (T : Txt K mg cm fa fd) (t : Nat → Option Addr) (z : Sto) : FnOk P w K mg base (L2.CX P w) 1 (fa 11) (fd 11) ["_law_number"] (spX K ⟨cm, t, z⟩ S_k62._law_line) :=
  fn_x (N := ["_law_number", "_law_some", "_law_many", "_law_k"]) (ps := ["_law_number"]) (b := S_k62._law_line_b) rfl T.d11.F sc11 fun cdv A outer s H E W hr =>
    (p_cons (p_set (i := 1) sc11.nd rfl (Or.inr rfl) e_str)
    (p_cons (p_set (i := 1) sc11.nd rfl (Or.inr rfl) (e_add (ev 1 rfl (.inr (.inl rfl))) e_str))
    (p_cons (p_set (i := 2) sc11.nd rfl (Or.inl rfl) (e_mod (ev 0 rfl (.inr (.inl rfl))) e_int))
    (p_one (p_ret (e_join e_str (e_lc (own := [("_law_k", 3)]) (vs := [3]) rfl rfl sc11.nd (iw (i_range1 rfl T.z_range (a_cons (ev 2 rfl (.inl rfl)) a_nil))) (blkOk_by (N := ["_law_number", "_law_some", "_law_many", "_law_k"]) (sc := defScope s11) (own := [("_law_k", 3)]) (by decide +kernel)) (by decide) (fun _ _ _ _ _ => (g_name (i := 3) sc11.nd rfl (Or.inl rfl))) (fun _ _ _ _ _ => ts_yes) (fun _ _ _ _ _ => (e_sub' (hu_of hr) (ev 1 rfl (.inr (.inl rfl))) (e_mod (e_div (ev 0 rfl (.inr (.inl rfl))) (e_add e_int (e_mulX e_int (ev 3 rfl (.inl rfl))))) (e_len rfl T.z_len (a_cons (ev 1 rfl (.inr (.inl rfl))) a_nil))))))))))))
theorem ok12 (T : Txt K mg cm fa fd) (t : Nat → Option Addr) (z : Sto) : FnOk P w K mg base (L2.CX P w) 2 (fa 12) (fd 12) ["_law_number"] (spX K ⟨cm, t, z⟩ S_k62._law_lines) :=
  fn_x (N := ["_law_number", "_law_some", "_law_k"]) (ps := ["_law_number"]) (b := S_k62._law_lines_b) rfl T.d12.F sc12 fun cdv A outer s H E W hr =>
    (p_cons (p_set (i := 1) sc12.nd rfl (Or.inr rfl) (e_add e_int (e_mulX e_int (e_mod (ev 0 rfl (.inr (.inl rfl))) e_int))))
    (p_one (p_retO (o_lcO (own := [("_law_k", 2)]) (vs := [2]) rfl rfl sc12.nd (iw (i_range1 rfl T.z_range (a_cons (e_mod (ev 0 rfl (.inr (.inl rfl))) e_int) a_nil))) (blkOk_by (N := ["_law_number", "_law_some", "_law_k"]) (sc := defScope s12) (own := [("_law_k", 2)]) (by decide +kernel)) (by decide) (fun _ _ _ _ _ => (g_name (i := 2) sc12.nd rfl (Or.inl rfl))) (fun _ _ _ _ _ => ts_yes) (fun _ _ _ _ _ => (o_call (ok11 T _ _) (hr.mono (by decide)) rfl T.d11.g T.d11.F.kp T.d11.b (a_cons (e_mod (e_o (o_call (ok10 T _ _) (hr.mono (by decide)) rfl T.d10.g T.d10.F.kp T.d10.b (a_cons (e_div (ev 0 rfl (.inr (.inl rfl))) e_int) (a_cons (ev 2 rfl (.inl rfl)) a_nil)))) (ev 1 rfl (.inr (.inl rfl)))) a_nil)))))))
theorem ok13 (T : Txt K mg cm fa fd) (t : Nat → Option Addr) (z : Sto) : FnOk P w K mg base (L2.CX P w) 1 (fa 13) (fd 13) ["_law_number"] (spX K ⟨cm, t, z⟩ S_k62._law_path) :=
  fn_x (N := ["_law_number", "_law_some", "_law_way"]) (ps := ["_law_number"]) (b := S_k62._law_path_b) rfl T.d13.F sc13 fun cdv A outer s H E W hr =>
    (p_cons (p_set (i := 1) sc13.nd rfl (Or.inl rfl) e_str)
    (p_cons (p_set (i := 2) sc13.nd rfl (Or.inl rfl) (e_mod (ev 0 rfl (.inl rfl)) e_int))
    (p_cons (p_if (t_eqX (u70 hr) (ev 2 rfl (.inl rfl)) e_int) (p_one (p_ret (e_add (e_add (e_sub' (hu_of hr) (ev 1 rfl (.inl rfl)) (e_mod (e_div (ev 0 rfl (.inl rfl)) e_int) e_int)) e_str) (e_sub' (hu_of hr) (ev 1 rfl (.inl rfl)) (e_mod (e_div (ev 0 rfl (.inl rfl)) e_int) e_int))))) p_nil)
    (p_one (p_ret (e_sub' (hu_of hr) (e_lst (a_cons e_str (a_cons e_str (a_cons e_str (a_cons e_str a_nil))))) (ev 2 rfl (.inl rfl))))))))
theorem ok14 (T : Txt K mg cm fa fd) (t : Nat → Option Addr) (z : Sto) : FnOk P w K mg base (L2.CX P w) 3 (fa 14) (fd 14) ["_law_script", "_law_start", "_law_cell"] (spX K ⟨cm, t, z⟩ S_k62._law_files) :=
  fn_x (N := ["_law_script", "_law_start", "_law_cell", "_law_found", "_law_k", "_law_number"]) (ps := ["_law_script", "_law_start", "_law_cell"]) (b := S_k62._law_files_b) rfl T.d14.F sc14 fun cdv A outer s H E W hr =>
    (p_cons (p_setO (i := 3) sc14.nd rfl (Or.inl rfl) o_dnew)
    (p_cons (p_for PassesOwn.never rfl (iw (i_range2 rfl T.z_range (a_cons (ev 1 rfl (.inl rfl)) (a_cons (e_add (ev 1 rfl (.inl rfl)) (e_mod (e_o (o_call (ok10 T _ _) (hr.mono (by decide)) rfl T.d10.g T.d10.F.kp T.d10.b (a_cons (ev 2 rfl (.inl rfl)) (a_cons (ev 1 rfl (.inl rfl)) a_nil)))) e_int)) a_nil)))) (g_name (i := 4) sc14.nd rfl (Or.inl rfl)) (p_cons (p_set (i := 5) sc14.nd rfl (Or.inl rfl) (e_o (o_call (ok9 T _ _) (hr.mono (by decide)) rfl T.d9.g T.d9.F.kp T.d9.b (a_cons (ev 0 rfl (.inl rfl)) (a_cons (ev 4 rfl (.inl rfl)) a_nil)))))
    (p_one (p_setDP 3 [] (hu_of hr) (pc_name 3 (pe_var (i := 3) rfl (.inl rfl))) (e_o (o_call (ok13 T _ _) (hr.mono (by decide)) rfl T.d13.g T.d13.F.kp T.d13.b (a_cons (e_o (o_call (ok10 T _ _) (hr.mono (by decide)) rfl T.d10.g T.d10.F.kp T.d10.b (a_cons (ev 5 rfl (.inl rfl)) (a_cons e_int a_nil)))) a_nil))) (o_call (ok12 T _ _) (hr.mono (by decide)) rfl T.d12.g T.d12.F.kp T.d12.b (a_cons (e_o (o_call (ok10 T _ _) (hr.mono (by decide)) rfl T.d10.g T.d10.F.kp T.d10.b (a_cons (e_mulX (e_div (ev 5 rfl (.inl rfl)) e_int) e_int) (a_cons e_int a_nil)))) a_nil))))))
    (p_one (p_retV 3 (pe_var (i := 3) rfl (.inl rfl))))))
theorem ok15 (T : Txt K mg cm fa fd) : FnOk P w K mg base (L2.CX P w) 4 (fa 15) (fd 15) ["_law_disk", "_law_tree"] (spZ K cm S_k62._law_turned) :=
  fn_z (N := ["_law_disk", "_law_tree", "_law_fell"]) (ps := ["_law_disk", "_law_tree"]) (b := S_k62._law_turned_b) rfl T.d15.F sc15 fun cdv A outer s H E hr tk hp =>
    (z_cons (z_set (i := 2) sc15.nd rfl (Or.inl rfl) (ze (fun _ => (kD (.bl false))) fun _ _ => e_bl))
    (z_cons (z_try [("Fallen", true)] rfl rfl ⟨rfl, by decide, .inl (T.er.g _ (by decide +kernel))⟩ tk (er_exm T.er (T := "Fallen") (by decide +kernel) (by decide +kernel)) (fun W1 pn1 xe1 tk hp => (z_one (z_expr (z_call tk (ok0 T) (hr.mono (by decide)) rfl T.d0.g T.d0.F.kp T.d0.b (za_cons (ze (fun _ => (rd 0)) fun _ _ => (ev 0 rfl (.inl rfl))) (za_cons (ze (fun _ => (rd 1)) fun _ _ => (ev 1 rfl (.inl rfl))) za_nil)))))) (fun _ _ _ => (z_one (z_set (i := 2) sc15.nd rfl (Or.inl rfl) (ze (fun _ => (kD (.bl true))) fun _ _ => e_bl)))))
    (z_one (z_ret (ze (fun _ => (rd 2)) fun _ _ => (ev 2 rfl (.inl rfl)))))))
theorem ok16 (T : Txt K mg cm fa fd) : FnOk P w K mg base (L2.CX P w) 5 (fa 16) (fd 16) ["_law_script"] (spZ K cm S_k62.law) :=
  fn_z (N := ["_law_script", "_law_files_here", "_law_tree", "_law_disk", "_law_path_here", "_law_lines_here", "_law_paths", "_law_many", "_law_handed", "_law_due"]) (ps := ["_law_script"]) (b := S_k62.law_b) rfl T.d16.F sc16 fun cdv A outer s H E hr tk hp =>
    (z_cons (z_set (i := 1) sc16.nd rfl (Or.inr rfl) (ze (fun _ => (frzS (callS S_k62._law_files (consA (rd 0) (consA (kD (.int 1)) (consA (frzS (callS S_k62._law_cell_at (consA (rd 0) (consA (kD (.int 0)) nilA)))) nilA)))))) fun _ _ => (e_o (o_call (ok14 T _ _) (hr.mono (by decide)) rfl T.d14.g T.d14.F.kp T.d14.b (a_cons (ev 0 rfl (.inl rfl)) (a_cons e_int (a_cons (e_o (o_call (ok9 T _ _) (hr.mono (by decide)) rfl T.d9.g T.d9.F.kp T.d9.b (a_cons (ev 0 rfl (.inl rfl)) (a_cons e_int a_nil)))) a_nil)))))))
    (z_cons (z_set (i := 2) sc16.nd rfl (Or.inr rfl) (ze (fun _ => (frzS (callS S_k62._law_files (consA (rd 0) (consA (bin addD (kD (.int 1)) (bin modD (frzS (callS S_k62._law_cell_at (consA (rd 0) (consA (kD (.int 0)) nilA)))) (kD (.int 4)))) (consA (bin divD (frzS (callS S_k62._law_cell_at (consA (rd 0) (consA (kD (.int 0)) nilA)))) (kD (.int 4))) nilA)))))) fun _ _ => (e_o (o_call (ok14 T _ _) (hr.mono (by decide)) rfl T.d14.g T.d14.F.kp T.d14.b (a_cons (ev 0 rfl (.inl rfl)) (a_cons (e_add e_int (e_mod (e_o (o_call (ok9 T _ _) (hr.mono (by decide)) rfl T.d9.g T.d9.F.kp T.d9.b (a_cons (ev 0 rfl (.inl rfl)) (a_cons e_int a_nil)))) e_int)) (a_cons (e_div (e_o (o_call (ok9 T _ _) (hr.mono (by decide)) rfl T.d9.g T.d9.F.kp T.d9.b (a_cons (ev 0 rfl (.inl rfl)) (a_cons e_int a_nil)))) e_int) a_nil)))))))
    (z_cons (z_set (i := 3) sc16.nd rfl (Or.inl rfl) (z_make0 tk T.k_Disk (ok1 T) (hr.mono (by decide)) rfl T.m_Disk T.d1.b hn1))
    (z_cons (z_forItems hp rfl (pt_v (pe_var (i := 1) rfl (.inr (.inl rfl)))) (fun _ _ => (ok_v _ 1)) (fun _ _ => (g_tup rfl (gs_cons (g_name (i := 4) sc16.nd rfl (Or.inl rfl)) (gs_cons (g_name (i := 5) sc16.nd rfl (Or.inl rfl)) gs_nil)))) (z_one (z_expr (z_meth (cn := "Disk") tk T.c_Disk T.t_Disk_put (ok6 T) (hr.mono (by decide)) T.d6.b (ze (fun _ => (rd 3)) fun _ _ => (ev 3 rfl (.inl rfl))) (za_cons (ze (fun _ => (rd 4)) fun _ _ => (ev 4 rfl (.inl rfl))) (za_cons (ze (fun _ => (rd 5)) fun _ _ => (ev 5 rfl (.inl rfl))) za_nil))))))
    (z_cons (z_expr (z_meth (cn := "Disk") tk T.c_Disk T.t_Disk_note (ok8 T) (hr.mono (by decide)) T.d8.b (ze (fun _ => (rd 3)) fun _ _ => (ev 3 rfl (.inl rfl))) (za_cons (ze (fun _ => (kD (.str "kind"))) fun _ _ => e_str) (za_cons (ze (fun _ => (kD (.str "text"))) fun _ _ => e_str) za_nil))))
    (z_cons (z_set (i := 6) sc16.nd rfl (Or.inl rfl) (ze (fun _ => (sortSetE (bin addD (app listKD (consA (rd 1) nilA)) (app listKD (consA (rd 2) nilA))))) fun _ _ => (e_sortSet rfl rfl T.z_sorted rfl T.z_set (e_add (e_listK rfl rfl T.z_list (a_cons (ev 1 rfl (.inr (.inl rfl))) a_nil)) (e_listK rfl rfl T.z_list (a_cons (ev 2 rfl (.inr (.inl rfl))) a_nil))))))
    (z_cons (zs (fun _ => (asgS 6 (lcS (itS (rd 6)) [4] (hName 4) (tst (bin neX (bin get1D (rd 1) (rd 4)) (bin get1D (rd 2) (rd 4)))) (rd 4)))) fun _ _ => (p_setLc (own := [("_law_path_here", 4)]) (vs := [4]) (i := 6) rfl rfl sc16.nd rfl rfl (sw_true rfl rfl rfl (by decide +kernel)) (iw (i_seq (ev 6 rfl (.inl rfl)))) (blkOk_by (N := ["_law_script", "_law_files_here", "_law_tree", "_law_disk", "_law_path_here", "_law_lines_here", "_law_paths", "_law_many", "_law_handed", "_law_due"]) (sc := defScope s16) (own := [("_law_path_here", 4)]) (by decide +kernel)) (by decide) (fun _ _ _ _ _ => (g_name (i := 4) sc16.nd rfl (Or.inl rfl))) (fun _ _ _ _ _ => (ts_one (t_neX (u70 hr) (e_get1 (hu_of hr) (ev 1 rfl (.inr (.inl rfl))) (ev 4 rfl (.inl rfl))) (e_get1 (hu_of hr) (ev 2 rfl (.inr (.inl rfl))) (ev 4 rfl (.inl rfl)))))) (fun _ _ _ _ _ => (ev 4 rfl (.inl rfl)))))
    (z_cons (z_set (i := 7) sc16.nd rfl (Or.inl rfl) (ze (fun _ => (bin modD (frzS (callS S_k62._law_cell_at (consA (rd 0) (consA (kD (.int 12)) nilA)))) (bin addD (app lenD (consA (rd 6) nilA)) (kD (.int 1))))) fun _ _ => (e_mod (e_o (o_call (ok9 T _ _) (hr.mono (by decide)) rfl T.d9.g T.d9.F.kp T.d9.b (a_cons (ev 0 rfl (.inl rfl)) (a_cons e_int a_nil)))) (e_add (e_len rfl T.z_len (a_cons (ev 6 rfl (.inl rfl)) a_nil)) e_int))))
    (z_cons (z_expr (z_meth (cn := "Disk") tk T.c_Disk T.t_Disk_allow (ok4 T) (hr.mono (by decide)) T.d4.b (ze (fun _ => (rd 3)) fun _ _ => (ev 3 rfl (.inl rfl))) (za_cons (ze (fun _ => (rd 7)) fun _ _ => (ev 7 rfl (.inl rfl))) za_nil)))
    (z_cons (z_set (i := 8) sc16.nd rfl (Or.inl rfl) (z_alo (fun _ => (fun _ => some (.od [] []))) fun _ _ => o_dnew))
    (z_cons (z_forItems hp rfl (pt_v (pe_var (i := 2) rfl (.inr (.inl rfl)))) (fun _ _ => (ok_v _ 2)) (fun _ _ => (g_tup rfl (gs_cons (g_name (i := 4) sc16.nd rfl (Or.inl rfl)) (gs_cons (g_name (i := 5) sc16.nd rfl (Or.inl rfl)) gs_nil)))) (z_one (z_dput (hu_of hr) (ze (fun _ => (rd 8)) fun _ _ => (ev 8 rfl (.inl rfl))) (ze (fun _ => (rd 4)) fun _ _ => (ev 4 rfl (.inl rfl))) (ze (fun _ => (app listD (consA (rd 5) nilA))) fun _ _ => (e_list rfl T.z_list (a_cons (ev 5 rfl (.inl rfl)) a_nil))))))
    (z_cons (z_stlTo 8 (z_if (L2.PW.pt (zw_or (zt_cmp (op_neX (u70 hr)) od_neX (z_call tk (ok15 T) (hr.mono (by decide)) rfl T.d15.g T.d15.F.kp T.d15.b (za_cons (ze (fun _ => (rd 3)) fun _ _ => (ev 3 rfl (.inl rfl))) (za_cons (ze (fun _ => (rd 8)) fun _ _ => (ev 8 rfl (.inl rfl))) za_nil))) (ze (fun _ => (bin ltX (rd 7) (app lenD (consA (rd 6) nilA)))) fun _ _ => (e_ltX hr.units (ev 7 rfl (.inl rfl)) (e_len rfl T.z_len (a_cons (ev 6 rfl (.inl rfl)) a_nil)))) (nomark _)) (zw_or1 (zt (fun _ => (tst (bin neX (rd 8) (rd 2)))) fun _ _ => (t_neX (u70 hr) (ev 8 rfl (.inl rfl)) (ev 2 rfl (.inr (.inl rfl)))))))) (z_one (z_ret (ze (fun _ => (kD (.bl false))) fun _ _ => e_bl))) z_nil))
    (z_cons (z_set (i := 9) sc16.nd rfl (Or.inl rfl) (z_alo (fun _ => (appO dictO (consA (rd 1) nilA))) fun _ _ => (o_dict rfl T.z_dict (a_cons (ev 1 rfl (.inr (.inl rfl))) a_nil))))
    (z_cons (z_for hp rfl (zi (fun _ => (itS (slS (rd 6) noP (prt (rd 7))))) fun _ _ => (i_seq (e_sl (ev 6 rfl (.inl rfl)) p_no (p_e (ev 7 rfl (.inl rfl)))))) (fun _ _ => (g_name (i := 4) sc16.nd rfl (Or.inl rfl))) (z_one (z_if (zt (fun _ => (tst (bin inX (rd 4) (rd 2)))) fun _ _ => (t_inX (u70 hr) (ev 4 rfl (.inl rfl)) (ev 2 rfl (.inr (.inl rfl))))) (z_one (z_dput (hu_of hr) (ze (fun _ => (rd 9)) fun _ _ => (ev 9 rfl (.inl rfl))) (ze (fun _ => (rd 4)) fun _ _ => (ev 4 rfl (.inl rfl))) (ze (fun _ => (bin subD' (rd 2) (rd 4))) fun _ _ => (e_sub' (hu_of hr) (ev 2 rfl (.inr (.inl rfl))) (ev 4 rfl (.inl rfl)))))) (z_one (z_expr (z_dpop1 (ze (fun _ => (rd 9)) fun _ _ => (ev 9 rfl (.inl rfl))) (ze (fun _ => (rd 4)) fun _ _ => (ev 4 rfl (.inl rfl)))))))))
    (z_cons (z_if (L2.PW.pt (zw_or (zt_cmp (op_neX (u70 hr)) od_neX (z_meth0 (cn := "Disk") tk T.c_Disk T.t_Disk_files_now (ok_snp (ok2 T _ _)) (hr.mono (by decide)) T.d2.b (ze (fun _ => (rd 3)) fun _ _ => (ev 3 rfl (.inl rfl)))) (ze (fun _ => (rd 9)) fun _ _ => (ev 9 rfl (.inl rfl))) (nomark _)) (zw_or1 (zt_cmp (op_neX (u70 hr)) od_neX (z_meth0 (cn := "Disk") tk T.c_Disk T.t_Disk_book_now (ok_snp (ok3 T _ _)) (hr.mono (by decide)) T.d3.b (ze (fun _ => (rd 3)) fun _ _ => (ev 3 rfl (.inl rfl)))) (ze (fun _ => (lstS (consA (tupS (consA (kD (.str "kind")) (consA (kD (.str "text")) nilA))) nilA))) fun _ _ => (e_lst (a_cons (e_tup (a_cons e_str (a_cons e_str a_nil))) a_nil))) (nomark _))))) (z_one (z_ret (ze (fun _ => (kD (.bl false))) fun _ _ => e_bl))) z_nil)
    (z_cons (z_expr (z_meth (cn := "Disk") tk T.c_Disk T.t_Disk_allow (ok4 T) (hr.mono (by decide)) T.d4.b (ze (fun _ => (rd 3)) fun _ _ => (ev 3 rfl (.inl rfl))) (za_cons (ze (fun _ => (bin subD (app lenD (consA (rd 6) nilA)) (rd 7))) fun _ _ => (e_sub (e_len rfl T.z_len (a_cons (ev 6 rfl (.inl rfl)) a_nil)) (ev 7 rfl (.inl rfl)))) za_nil)))
    (z_cons (z_if (L2.PW.pt (zw_or (zt_val (z_call tk (ok15 T) (hr.mono (by decide)) rfl T.d15.g T.d15.F.kp T.d15.b (za_cons (ze (fun _ => (rd 3)) fun _ _ => (ev 3 rfl (.inl rfl))) (za_cons (ze (fun _ => (rd 2)) fun _ _ => (ev 2 rfl (.inr (.inl rfl)))) za_nil)))) (zw_or1 (zt_cmp (op_neX (u70 hr)) od_neX (z_meth0 (cn := "Disk") tk T.c_Disk T.t_Disk_files_now (ok_snp (ok2 T _ _)) (hr.mono (by decide)) T.d2.b (ze (fun _ => (rd 3)) fun _ _ => (ev 3 rfl (.inl rfl)))) (ze (fun _ => (rd 2)) fun _ _ => (ev 2 rfl (.inr (.inl rfl)))) (nomark _))))) (z_one (z_ret (ze (fun _ => (kD (.bl false))) fun _ _ => e_bl))) z_nil)
    (z_cons (z_expr (z_meth (cn := "Disk") tk T.c_Disk T.t_Disk_allow (ok4 T) (hr.mono (by decide)) T.d4.b (ze (fun _ => (rd 3)) fun _ _ => (ev 3 rfl (.inl rfl))) (za_cons (ze (fun _ => (kD (.int 0))) fun _ _ => e_int) za_nil)))
    (z_one (z_ret (zv_not (z_call tk (ok15 T) (hr.mono (by decide)) rfl T.d15.g T.d15.F.kp T.d15.b (za_cons (ze (fun _ => (rd 3)) fun _ _ => (ev 3 rfl (.inl rfl))) (za_cons (ze (fun _ => (rd 2)) fun _ _ => (ev 2 rfl (.inr (.inl rfl)))) za_nil))))))))))))))))))))))))
end
theorem all_mk {l : PySem.W.OpenLaw} {w : World} {K : PySem.W.Frag} {h : Heap} {mg : Str → Option Value} {fl : Addr} (X : K.In h) (G : h.Ns mainGlobals mg) (hfl : mg "law" = some (.ref fl))
    (hg : ∀ ns : List Int, ns.length ≤ 63 → ∃ z, S_k62.law [] [.scr (ns.map Dat.int)] = some (.ok z (.bl true)))
    {f2 f5 f6 f7 f0 f1 f3 f4 f8 f9 f10 f11 f12 f13 f14 f15 f16 C_Disk C_MendError C_Fallen : Addr}
    {od2 an2 od5 an5 od6 an6 od7 an7 od0 an0 od1 an1 od3 an3 od4 an4 od8 an8 od9 an9 od10 an10 od11 an11 od12 an12 od13 an13 od14 an14 od15 an15 od16 an16 : Option Addr} {sl2 sl5 sl6 sl7 sl0 sl1 sl3 sl4 sl8 sl9 sl10 sl11 sl12 sl13 sl14 sl15 sl16 : Array (Option Value)}
    {oc2 kV2 dc2 pm2 cd2 ct2 oc5 kV5 dc5 pm5 cd5 ct5 oc6 kV6 dc6 pm6 cd6 ct6 oc7 kV7 dc7 pm7 cd7 ct7 oc0 kV0 dc0 pm0 cd0 ct0 oc1 kV1 dc1 pm1 cd1 ct1 oc3 kV3 dc3 pm3 cd3 ct3 oc4 kV4 dc4 pm4 cd4 ct4 oc8 kV8 dc8 pm8 cd8 ct8 oc9 kV9 dc9 pm9 cd9 ct9 oc10 kV10 dc10 pm10 cd10 ct10 oc11 kV11 dc11 pm11 cd11 ct11 oc12 kV12 dc12 pm12 cd12 ct12 oc13 kV13 dc13 pm13 cd13 ct13 oc14 kV14 dc14 pm14 cd14 ct14 oc15 kV15 dc15 pm15 cd15 ct15 oc16 kV16 dc16 pm16 cd16 ct16 : Value}
    (q_Disk : PySem.W.nsIn K mainGlobals "Disk" = some (some (.ref C_Disk)))
    (pg_Disk : PySem.W.plainGet K C_Disk Str.empty = true)
    (hd_Disk : PySem.W.hasDictIn K C_Disk = true)
    (po_Disk : PySem.W.plainOver K C_Disk = true)
    (sa_Disk : PySem.W.findIn K (.ref C_Disk) "__setattr__" = some (some (.builtin "object.__setattr__")))
    (mk_Disk : PySem.W.makesIn K C_Disk = true)
    (kc_Disk : PySem.W.keepIn K (.ref C_Disk) = true)
    (nf_Disk_kept : PySem.W.findIn K (.ref C_Disk) "kept" = some none)
    (nf_Disk_rows : PySem.W.findIn K (.ref C_Disk) "rows" = some none)
    (nf_Disk_left : PySem.W.findIn K (.ref C_Disk) "left" = some none)
    (er_n : PySem.W.specialIn K (.builtin "object.__class__") "__get__" = some (some (.builtin "getset_descriptor.__get__")))
    (er_t : PySem.W.takesIn K (.builtin "object.__class__") = some true)
    (q_MendError : PySem.W.nsIn K mainGlobals "MendError" = some (some (.ref C_MendError)))
    (be_MendError : PySem.W.subIn K (.ref C_MendError) (.type "BaseException") = some true)
    (ty_MendError : PySem.W.typeIn K (.ref C_MendError) = some (.type "type"))
    (hd_MendError : PySem.W.hasDictIn K C_MendError = true)
    (q_Fallen : PySem.W.nsIn K mainGlobals "Fallen" = some (some (.ref C_Fallen)))
    (be_Fallen : PySem.W.subIn K (.ref C_Fallen) (.type "BaseException") = some true)
    (ty_Fallen : PySem.W.typeIn K (.ref C_Fallen) = some (.type "type"))
    (hd_Fallen : PySem.W.hasDictIn K C_Fallen = true)
    (kc_Fallen : PySem.W.keepIn K (.ref C_Fallen) = true)
    (xx_Fallen : PySem.W.excIn K C_Fallen [.type "ValueError", .type "Exception", .type "BaseException", .type "object"] "ValueError.__new__" = true)
    (gg_Fallen : PySem.W.findIn K (.ref C_Fallen) "__getattribute__" = some (some (.builtin "BaseException.__getattribute__")))
    (gk_Fallen : PySem.W.findIn K (.ref C_Fallen) "__getattr__" = some none)
    (ga_Fallen : PySem.W.findIn K (.ref C_Fallen) "__class__" = some (some (.builtin "object.__class__")))
    (gm_Fallen : PySem.W.mroIn K C_Fallen (.type "object") = some true)
    (sv_Fallen : PySem.W.subIn K (.ref C_Fallen) (.type "ValueError") = some true)
    (ss_Fallen_MendError : PySem.W.subIn K (.ref C_Fallen) (.ref C_MendError) = some true)
    (ss_Fallen_Fallen : PySem.W.subIn K (.ref C_Fallen) (.ref C_Fallen) = some true)
    (a2 : PySem.W.findIn K (.ref C_Disk) "files_now" = some (some (.ref f2)))
    (i2 : PySem.W.isFn K (.ref f2) = true)
    (l2 : K.lookup f2 = some ⟨oc2, od2, .func (PySem.W.fnOf "files_now" "Disk.files_now" (defArgs s2) (defBody s2) (defScope s2) .none kV2 dc2 pm2 an2 cd2 ct2), sl2⟩)
    (c2 : PySem.W.codeIn K cd2 "Disk.files_now" = true)
    (k2 : PySem.W.keepIn K (.ref f2) = true)
    (a5 : PySem.W.findIn K (.ref C_Disk) "spend" = some (some (.ref f5)))
    (i5 : PySem.W.isFn K (.ref f5) = true)
    (l5 : K.lookup f5 = some ⟨oc5, od5, .func (PySem.W.fnOf "spend" "Disk.spend" (defArgs s5) (defBody s5) (defScope s5) .none kV5 dc5 pm5 an5 cd5 ct5), sl5⟩)
    (c5 : PySem.W.codeIn K cd5 "Disk.spend" = true)
    (k5 : PySem.W.keepIn K (.ref f5) = true)
    (a6 : PySem.W.findIn K (.ref C_Disk) "put" = some (some (.ref f6)))
    (i6 : PySem.W.isFn K (.ref f6) = true)
    (l6 : K.lookup f6 = some ⟨oc6, od6, .func (PySem.W.fnOf "put" "Disk.put" (defArgs s6) (defBody s6) (defScope s6) .none kV6 dc6 pm6 an6 cd6 ct6), sl6⟩)
    (c6 : PySem.W.codeIn K cd6 "Disk.put" = true)
    (k6 : PySem.W.keepIn K (.ref f6) = true)
    (a7 : PySem.W.findIn K (.ref C_Disk) "erase" = some (some (.ref f7)))
    (i7 : PySem.W.isFn K (.ref f7) = true)
    (l7 : K.lookup f7 = some ⟨oc7, od7, .func (PySem.W.fnOf "erase" "Disk.erase" (defArgs s7) (defBody s7) (defScope s7) .none kV7 dc7 pm7 an7 cd7 ct7), sl7⟩)
    (c7 : PySem.W.codeIn K cd7 "Disk.erase" = true)
    (k7 : PySem.W.keepIn K (.ref f7) = true)
    (a0 : PySem.W.nsIn K mainGlobals "turn_to" = some (some (.ref f0)))
    (l0 : K.lookup f0 = some ⟨oc0, od0, .func (PySem.W.fnOf "turn_to" "turn_to" (defArgs s0) (defBody s0) (defScope s0) .none kV0 dc0 pm0 an0 cd0 ct0), sl0⟩)
    (c0 : PySem.W.codeIn K cd0 "turn_to" = true)
    (k0 : PySem.W.keepIn K (.ref f0) = true)
    (a1 : PySem.W.findIn K (.ref C_Disk) "__init__" = some (some (.ref f1)))
    (i1 : PySem.W.isFn K (.ref f1) = true)
    (l1 : K.lookup f1 = some ⟨oc1, od1, .func (PySem.W.fnOf "__init__" "Disk.__init__" (defArgs s1) (defBody s1) (defScope s1) .none kV1 dc1 pm1 an1 cd1 ct1), sl1⟩)
    (c1 : PySem.W.codeIn K cd1 "Disk.__init__" = true)
    (k1 : PySem.W.keepIn K (.ref f1) = true)
    (a3 : PySem.W.findIn K (.ref C_Disk) "book_now" = some (some (.ref f3)))
    (i3 : PySem.W.isFn K (.ref f3) = true)
    (l3 : K.lookup f3 = some ⟨oc3, od3, .func (PySem.W.fnOf "book_now" "Disk.book_now" (defArgs s3) (defBody s3) (defScope s3) .none kV3 dc3 pm3 an3 cd3 ct3), sl3⟩)
    (c3 : PySem.W.codeIn K cd3 "Disk.book_now" = true)
    (k3 : PySem.W.keepIn K (.ref f3) = true)
    (a4 : PySem.W.findIn K (.ref C_Disk) "allow" = some (some (.ref f4)))
    (i4 : PySem.W.isFn K (.ref f4) = true)
    (l4 : K.lookup f4 = some ⟨oc4, od4, .func (PySem.W.fnOf "allow" "Disk.allow" (defArgs s4) (defBody s4) (defScope s4) .none kV4 dc4 pm4 an4 cd4 ct4), sl4⟩)
    (c4 : PySem.W.codeIn K cd4 "Disk.allow" = true)
    (k4 : PySem.W.keepIn K (.ref f4) = true)
    (a8 : PySem.W.findIn K (.ref C_Disk) "note" = some (some (.ref f8)))
    (i8 : PySem.W.isFn K (.ref f8) = true)
    (l8 : K.lookup f8 = some ⟨oc8, od8, .func (PySem.W.fnOf "note" "Disk.note" (defArgs s8) (defBody s8) (defScope s8) .none kV8 dc8 pm8 an8 cd8 ct8), sl8⟩)
    (c8 : PySem.W.codeIn K cd8 "Disk.note" = true)
    (k8 : PySem.W.keepIn K (.ref f8) = true)
    (a9 : PySem.W.nsIn K mainGlobals "_law_cell_at" = some (some (.ref f9)))
    (l9 : K.lookup f9 = some ⟨oc9, od9, .func (PySem.W.fnOf "_law_cell_at" "_law_cell_at" (defArgs s9) (defBody s9) (defScope s9) .none kV9 dc9 pm9 an9 cd9 ct9), sl9⟩)
    (c9 : PySem.W.codeIn K cd9 "_law_cell_at" = true)
    (k9 : PySem.W.keepIn K (.ref f9) = true)
    (a10 : PySem.W.nsIn K mainGlobals "_law_mixed" = some (some (.ref f10)))
    (l10 : K.lookup f10 = some ⟨oc10, od10, .func (PySem.W.fnOf "_law_mixed" "_law_mixed" (defArgs s10) (defBody s10) (defScope s10) .none kV10 dc10 pm10 an10 cd10 ct10), sl10⟩)
    (c10 : PySem.W.codeIn K cd10 "_law_mixed" = true)
    (k10 : PySem.W.keepIn K (.ref f10) = true)
    (a11 : PySem.W.nsIn K mainGlobals "_law_line" = some (some (.ref f11)))
    (l11 : K.lookup f11 = some ⟨oc11, od11, .func (PySem.W.fnOf "_law_line" "_law_line" (defArgs s11) (defBody s11) (defScope s11) .none kV11 dc11 pm11 an11 cd11 ct11), sl11⟩)
    (c11 : PySem.W.codeIn K cd11 "_law_line" = true)
    (k11 : PySem.W.keepIn K (.ref f11) = true)
    (a12 : PySem.W.nsIn K mainGlobals "_law_lines" = some (some (.ref f12)))
    (l12 : K.lookup f12 = some ⟨oc12, od12, .func (PySem.W.fnOf "_law_lines" "_law_lines" (defArgs s12) (defBody s12) (defScope s12) .none kV12 dc12 pm12 an12 cd12 ct12), sl12⟩)
    (c12 : PySem.W.codeIn K cd12 "_law_lines" = true)
    (k12 : PySem.W.keepIn K (.ref f12) = true)
    (a13 : PySem.W.nsIn K mainGlobals "_law_path" = some (some (.ref f13)))
    (l13 : K.lookup f13 = some ⟨oc13, od13, .func (PySem.W.fnOf "_law_path" "_law_path" (defArgs s13) (defBody s13) (defScope s13) .none kV13 dc13 pm13 an13 cd13 ct13), sl13⟩)
    (c13 : PySem.W.codeIn K cd13 "_law_path" = true)
    (k13 : PySem.W.keepIn K (.ref f13) = true)
    (a14 : PySem.W.nsIn K mainGlobals "_law_files" = some (some (.ref f14)))
    (l14 : K.lookup f14 = some ⟨oc14, od14, .func (PySem.W.fnOf "_law_files" "_law_files" (defArgs s14) (defBody s14) (defScope s14) .none kV14 dc14 pm14 an14 cd14 ct14), sl14⟩)
    (c14 : PySem.W.codeIn K cd14 "_law_files" = true)
    (k14 : PySem.W.keepIn K (.ref f14) = true)
    (a15 : PySem.W.nsIn K mainGlobals "_law_turned" = some (some (.ref f15)))
    (l15 : K.lookup f15 = some ⟨oc15, od15, .func (PySem.W.fnOf "_law_turned" "_law_turned" (defArgs s15) (defBody s15) (defScope s15) .none kV15 dc15 pm15 an15 cd15 ct15), sl15⟩)
    (c15 : PySem.W.codeIn K cd15 "_law_turned" = true)
    (k15 : PySem.W.keepIn K (.ref f15) = true)
    (a16 : PySem.W.nsIn K mainGlobals "law" = some (some (.ref f16)))
    (l16 : K.lookup f16 = some ⟨oc16, od16, .func (PySem.W.fnOf "law" "law" (defArgs s16) (defBody s16) (defScope s16) .none kV16 dc16 pm16 an16 cd16 ct16), sl16⟩)
    (c16 : PySem.W.codeIn K cd16 "law" = true)
    (k16 : PySem.W.keepIn K (.ref f16) = true)
    (z_dict : PySem.W.nsIn K mainGlobals "dict" = some none)
    (z_len : PySem.W.nsIn K mainGlobals "len" = some none)
    (z_list : PySem.W.nsIn K mainGlobals "list" = some none)
    (z_range : PySem.W.nsIn K mainGlobals "range" = some none)
    (z_set : PySem.W.nsIn K mainGlobals "set" = some none)
    (z_sorted : PySem.W.nsIn K mainGlobals "sorted" = some none) :
    ∃ fd : FuncData, (∀ (s : Shared) (v : Value), BindsTo s fd ⟨[v], []⟩ [("_law_script", v)]) ∧ ∀ base : Heap, K.In base → base.Ns mainGlobals mg → FnOk l.prog w K mg base (L2.CX l.prog w) 5 fl fd ["_law_script"] (spL K) := by
  have e := hfl.symm.trans (PySem.W.mg_of X G a16)
  cases e
  have F2 := fun_mk (st := s2) l2 c2 k2
  have b2 := F2.binds (ps := ["self"]) fun _ _ _ _ _ _ us hl => match us, hl with | [_], _ => rfl
  have F5 := fun_mk (st := s5) l5 c5 k5
  have b5 := F5.binds (ps := ["self"]) fun _ _ _ _ _ _ us hl => match us, hl with | [_], _ => rfl
  have F6 := fun_mk (st := s6) l6 c6 k6
  have b6 := F6.binds (ps := ["self", "path", "lines"]) fun _ _ _ _ _ _ us hl => match us, hl with | [_, _, _], _ => rfl
  have F7 := fun_mk (st := s7) l7 c7 k7
  have b7 := F7.binds (ps := ["self", "path"]) fun _ _ _ _ _ _ us hl => match us, hl with | [_, _], _ => rfl
  have F0 := fun_mk (st := s0) l0 c0 k0
  have b0 := F0.binds (ps := ["disk", "tree"]) fun _ _ _ _ _ _ us hl => match us, hl with | [_, _], _ => rfl
  have F1 := fun_mk (st := s1) l1 c1 k1
  have b1 := F1.binds (ps := ["self"]) fun _ _ _ _ _ _ us hl => match us, hl with | [_], _ => rfl
  have F3 := fun_mk (st := s3) l3 c3 k3
  have b3 := F3.binds (ps := ["self"]) fun _ _ _ _ _ _ us hl => match us, hl with | [_], _ => rfl
  have F4 := fun_mk (st := s4) l4 c4 k4
  have b4 := F4.binds (ps := ["self", "many"]) fun _ _ _ _ _ _ us hl => match us, hl with | [_, _], _ => rfl
  have F8 := fun_mk (st := s8) l8 c8 k8
  have b8 := F8.binds (ps := ["self", "kind", "text"]) fun _ _ _ _ _ _ us hl => match us, hl with | [_, _, _], _ => rfl
  have F9 := fun_mk (st := s9) l9 c9 k9
  have b9 := F9.binds (ps := ["_law_script", "_law_k"]) fun _ _ _ _ _ _ us hl => match us, hl with | [_, _], _ => rfl
  have F10 := fun_mk (st := s10) l10 c10 k10
  have b10 := F10.binds (ps := ["_law_cell", "_law_k"]) fun _ _ _ _ _ _ us hl => match us, hl with | [_, _], _ => rfl
  have F11 := fun_mk (st := s11) l11 c11 k11
  have b11 := F11.binds (ps := ["_law_number"]) fun _ _ _ _ _ _ us hl => match us, hl with | [_], _ => rfl
  have F12 := fun_mk (st := s12) l12 c12 k12
  have b12 := F12.binds (ps := ["_law_number"]) fun _ _ _ _ _ _ us hl => match us, hl with | [_], _ => rfl
  have F13 := fun_mk (st := s13) l13 c13 k13
  have b13 := F13.binds (ps := ["_law_number"]) fun _ _ _ _ _ _ us hl => match us, hl with | [_], _ => rfl
  have F14 := fun_mk (st := s14) l14 c14 k14
  have b14 := F14.binds (ps := ["_law_script", "_law_start", "_law_cell"]) fun _ _ _ _ _ _ us hl => match us, hl with | [_, _, _], _ => rfl
  have F15 := fun_mk (st := s15) l15 c15 k15
  have b15 := F15.binds (ps := ["_law_disk", "_law_tree"]) fun _ _ _ _ _ _ us hl => match us, hl with | [_, _], _ => rfl
  have F16 := fun_mk (st := s16) l16 c16 k16
  have b16 := F16.binds (ps := ["_law_script"]) fun _ _ _ _ _ _ us hl => match us, hl with | [_], _ => rfl
  let fa : Nat → Addr := fun i => match i with
    | 2 => f2
    | 5 => f5
    | 6 => f6
    | 7 => f7
    | 0 => f0
    | 1 => f1
    | 3 => f3
    | 4 => f4
    | 8 => f8
    | 9 => f9
    | 10 => f10
    | 11 => f11
    | 12 => f12
    | 13 => f13
    | 14 => f14
    | 15 => f15
    | 16 => fl
    | _ => 0
  let fd : Nat → FuncData := fun i => match i with
    | 2 => PySem.W.fnOf "files_now" "Disk.files_now" (defArgs s2) (defBody s2) (defScope s2) .none kV2 dc2 pm2 an2 cd2 ct2
    | 5 => PySem.W.fnOf "spend" "Disk.spend" (defArgs s5) (defBody s5) (defScope s5) .none kV5 dc5 pm5 an5 cd5 ct5
    | 6 => PySem.W.fnOf "put" "Disk.put" (defArgs s6) (defBody s6) (defScope s6) .none kV6 dc6 pm6 an6 cd6 ct6
    | 7 => PySem.W.fnOf "erase" "Disk.erase" (defArgs s7) (defBody s7) (defScope s7) .none kV7 dc7 pm7 an7 cd7 ct7
    | 0 => PySem.W.fnOf "turn_to" "turn_to" (defArgs s0) (defBody s0) (defScope s0) .none kV0 dc0 pm0 an0 cd0 ct0
    | 1 => PySem.W.fnOf "__init__" "Disk.__init__" (defArgs s1) (defBody s1) (defScope s1) .none kV1 dc1 pm1 an1 cd1 ct1
    | 3 => PySem.W.fnOf "book_now" "Disk.book_now" (defArgs s3) (defBody s3) (defScope s3) .none kV3 dc3 pm3 an3 cd3 ct3
    | 4 => PySem.W.fnOf "allow" "Disk.allow" (defArgs s4) (defBody s4) (defScope s4) .none kV4 dc4 pm4 an4 cd4 ct4
    | 8 => PySem.W.fnOf "note" "Disk.note" (defArgs s8) (defBody s8) (defScope s8) .none kV8 dc8 pm8 an8 cd8 ct8
    | 9 => PySem.W.fnOf "_law_cell_at" "_law_cell_at" (defArgs s9) (defBody s9) (defScope s9) .none kV9 dc9 pm9 an9 cd9 ct9
    | 10 => PySem.W.fnOf "_law_mixed" "_law_mixed" (defArgs s10) (defBody s10) (defScope s10) .none kV10 dc10 pm10 an10 cd10 ct10
    | 11 => PySem.W.fnOf "_law_line" "_law_line" (defArgs s11) (defBody s11) (defScope s11) .none kV11 dc11 pm11 an11 cd11 ct11
    | 12 => PySem.W.fnOf "_law_lines" "_law_lines" (defArgs s12) (defBody s12) (defScope s12) .none kV12 dc12 pm12 an12 cd12 ct12
    | 13 => PySem.W.fnOf "_law_path" "_law_path" (defArgs s13) (defBody s13) (defScope s13) .none kV13 dc13 pm13 an13 cd13 ct13
    | 14 => PySem.W.fnOf "_law_files" "_law_files" (defArgs s14) (defBody s14) (defScope s14) .none kV14 dc14 pm14 an14 cd14 ct14
    | 15 => PySem.W.fnOf "_law_turned" "_law_turned" (defArgs s15) (defBody s15) (defScope s15) .none kV15 dc15 pm15 an15 cd15 ct15
    | 16 => PySem.W.fnOf "law" "law" (defArgs s16) (defBody s16) (defScope s16) .none kV16 dc16 pm16 an16 cd16 ct16
    | _ => PySem.W.fnOf "law" "law" (defArgs s16) (defBody s16) (defScope s16) .none kV16 dc16 pm16 an16 cd16 ct16
  obtain ⟨cm, e_Disk, e_MendError, e_Fallen⟩ : ∃ cm : Str → Addr, cm "Disk" = C_Disk ∧ cm "MendError" = C_MendError ∧ cm "Fallen" = C_Fallen :=
    ⟨fun n => if n = "Disk" then C_Disk else if n = "MendError" then C_MendError else if n = "Fallen" then C_Fallen else 0, if_pos rfl, (if_neg (by decide +kernel)).trans (if_pos rfl), (if_neg (by decide +kernel)).trans ((if_neg (by decide +kernel)).trans (if_pos rfl))⟩
  have T : Txt K mg cm fa fd := by
    refine ⟨?_, ?_, ?_, ?_, ?_, ?_, ?_, ?_, ?_, ?_, ?_, ?_, ?_, ?_, ?_, ?_, ?_, ?_, ?_, ?_, ?_, ?_, ?_, ?_, ?_, ?_, ?_, ?_, ?_, ?_, ?_, ?_, ?_, ?_, ?_, ?_, ?_, ?_, ?_, ?_⟩
    · exact ⟨F2, b2⟩
    · exact ⟨F5, b5⟩
    · exact ⟨F6, b6⟩
    · exact ⟨F7, b7⟩
    · exact ⟨F0, PySem.W.mg_of X G a0, b0⟩
    · exact ⟨F1, b1⟩
    · exact ⟨F3, b3⟩
    · exact ⟨F4, b4⟩
    · exact ⟨F8, b8⟩
    · exact ⟨F9, PySem.W.mg_of X G a9, b9⟩
    · exact ⟨F10, PySem.W.mg_of X G a10, b10⟩
    · exact ⟨F11, PySem.W.mg_of X G a11, b11⟩
    · exact ⟨F12, PySem.W.mg_of X G a12, b12⟩
    · exact ⟨F13, PySem.W.mg_of X G a13, b13⟩
    · exact ⟨F14, PySem.W.mg_of X G a14, b14⟩
    · exact ⟨F15, PySem.W.mg_of X G a15, b15⟩
    · exact ⟨F16, PySem.W.mg_of X G a16, b16⟩
    · exact (by rw [e_Disk]; exact ⟨pg_Disk, hd_Disk, po_Disk, sa_Disk⟩)
    · exact (by rw [e_Disk]; exact PySem.W.mg_of X G q_Disk)
    · exact (by rw [e_Disk]; exact ⟨mk_Disk, a1, i1, kc_Disk⟩)
    · exact (by rw [e_Disk]; exact nf_Disk_kept)
    · exact (by rw [e_Disk]; exact nf_Disk_rows)
    · exact (by rw [e_Disk]; exact nf_Disk_left)
    · exact (by rw [e_Disk]; exact ⟨a2, i2, k2⟩)
    · exact (by rw [e_Disk]; exact ⟨a7, i7, k7⟩)
    · exact (by rw [e_Disk]; exact ⟨a6, i6, k6⟩)
    · exact (by rw [e_Disk]; exact ⟨a5, i5, k5⟩)
    · exact (by rw [e_Disk]; exact ⟨a8, i8, k8⟩)
    · exact (by rw [e_Disk]; exact ⟨a4, i4, k4⟩)
    · exact (by rw [e_Disk]; exact ⟨a3, i3, k3⟩)
    · exact (fun c hc => by
        simp only [List.mem_cons, List.not_mem_nil, or_false] at hc
        subst hc
        · rw [e_Disk]; exact ⟨⟨pg_Disk, hd_Disk, po_Disk, sa_Disk⟩, nf_Disk_kept⟩)
    · exact (fun c hc => by
        simp only [List.mem_cons, List.not_mem_nil, or_false] at hc
        subst hc
        · rw [e_Disk]; exact ⟨⟨pg_Disk, hd_Disk, po_Disk, sa_Disk⟩, nf_Disk_rows⟩)
    · exact (fun c hc => by
        simp only [List.mem_cons, List.not_mem_nil, or_false] at hc
        subst hc
        · rw [e_Disk]; exact ⟨⟨pg_Disk, hd_Disk, po_Disk, sa_Disk⟩, nf_Disk_left⟩)
    · exact PySem.W.mg_none_of X G z_dict
    · exact PySem.W.mg_none_of X G z_len
    · exact PySem.W.mg_none_of X G z_list
    · exact PySem.W.mg_none_of X G z_range
    · exact PySem.W.mg_none_of X G z_set
    · exact PySem.W.mg_none_of X G z_sorted
    · exact ⟨(fun T hT => by
        simp only [List.mem_cons, List.not_mem_nil, or_false] at hT
        rcases hT with rfl | rfl
        · rw [e_MendError]; exact PySem.W.mg_of X G q_MendError
        · rw [e_Fallen]; exact PySem.W.mg_of X G q_Fallen),
      (by decide +kernel),
      (fun T hT => by
        simp only [List.mem_cons, List.not_mem_nil, or_false] at hT
        subst hT
        · rw [e_Fallen]; exact kc_Fallen),
      (fun T hT => by
        simp only [List.mem_cons, List.not_mem_nil, or_false] at hT
        subst hT
        · rw [e_Fallen]; exact xx_Fallen),
      (fun T hT => by
        simp only [List.mem_cons, List.not_mem_nil, or_false] at hT
        rcases hT with rfl | rfl
        · rw [e_MendError]; exact be_MendError
        · rw [e_Fallen]; exact be_Fallen),
      (fun T hT => by
        simp only [List.mem_cons, List.not_mem_nil, or_false] at hT
        rcases hT with rfl | rfl
        · rw [e_MendError]; exact ty_MendError
        · rw [e_Fallen]; exact ty_Fallen),
      (fun T hT => by
        simp only [List.mem_cons, List.not_mem_nil, or_false] at hT
        rcases hT with rfl | rfl
        · rw [e_MendError]; exact hd_MendError
        · rw [e_Fallen]; exact hd_Fallen),
      (fun D hD => by
        simp only [List.mem_cons, List.not_mem_nil, or_false] at hD
        subst hD
        · rw [e_Fallen]; exact ⟨gg_Fallen, gk_Fallen, be_Fallen, hd_Fallen, ga_Fallen, er_n, er_t, gm_Fallen⟩),
      (fun D hD => by
        simp only [List.mem_cons, List.not_mem_nil, or_false] at hD
        subst hD
        · exact fun T hT => by
            simp only [List.mem_cons, List.not_mem_nil, or_false] at hT
            rcases hT with rfl | rfl
            · rw [e_Fallen, e_MendError]; exact ss_Fallen_MendError.trans (by decide +kernel)
            · rw [e_Fallen]; exact ss_Fallen_Fallen.trans (by decide +kernel)),
      (fun D hD => by
        simp only [List.mem_cons, List.not_mem_nil, or_false] at hD
        subst hD
        · rw [e_Fallen]; exact sv_Fallen)⟩
  exact ⟨PySem.W.fnOf "law" "law" (defArgs s16) (defBody s16) (defScope s16) .none kV16 dc16 pm16 an16 cd16 ct16, fun s v => .of_eq rfl, fun base _ _ => law_okZ (ok16 T) hg⟩
end K62
end Pq

open PySem PySem.W PyProof.Rows
set_option maxHeartbeats 0 in
theorem PySem.Challenge.cw_parcelmend_k62_turned_to_a_tree_holds : PySem.Challenge.rw_parcelmend_k62_turned_to_a_tree.Holds := by
  w_on; o_law; k_head; (case hw => w_witness2)
  k_fill
  refine L2.walk_of (l := PySem.Challenge.rw_parcelmend_k62_turned_to_a_tree) (n := 63) (k := 5) (x := "_law_script") (CX := fun w => L2.CX PySem.Challenge.rw_parcelmend_k62_turned_to_a_tree.prog w) (sp := fun w => Pq.spL _) rfl (by decide) rfl ⟨rfl, by decide, by decide⟩ (fun w h Y => PySem.W.kIn_of Y) ?F (fun w H a ns hl hO hS => ⟨a, ns, rfl, hS, hl, fun _ => rfl⟩) (fun w H s e s' h => Pq.law_out h)
  case F =>
    intro w mg fa h KX G hmg
    refine' Pq.K62.all_mk KX G hmg Pq.K62_law_true ?q_Disk ?pg_Disk ?hd_Disk ?po_Disk ?sa_Disk ?mk_Disk ?kc_Disk ?nf_Disk_kept ?nf_Disk_rows ?nf_Disk_left ?er_n ?er_t ?q_MendError ?be_MendError ?ty_MendError ?hd_MendError ?q_Fallen ?be_Fallen ?ty_Fallen ?hd_Fallen ?kc_Fallen ?xx_Fallen ?gg_Fallen ?gk_Fallen ?ga_Fallen ?gm_Fallen ?sv_Fallen ?ss_Fallen_MendError ?ss_Fallen_Fallen ?a2 ?i2 ?l2 ?c2 ?k2 ?a5 ?i5 ?l5 ?c5 ?k5 ?a6 ?i6 ?l6 ?c6 ?k6 ?a7 ?i7 ?l7 ?c7 ?k7 ?a0 ?l0 ?c0 ?k0 ?a1 ?i1 ?l1 ?c1 ?k1 ?a3 ?i3 ?l3 ?c3 ?k3 ?a4 ?i4 ?l4 ?c4 ?k4 ?a8 ?i8 ?l8 ?c8 ?k8 ?a9 ?l9 ?c9 ?k9 ?a10 ?l10 ?c10 ?k10 ?a11 ?l11 ?c11 ?k11 ?a12 ?l12 ?c12 ?k12 ?a13 ?l13 ?c13 ?k13 ?a14 ?l14 ?c14 ?k14 ?a15 ?l15 ?c15 ?k15 ?a16 ?l16 ?c16 ?k16 ?z_dict ?z_len ?z_list ?z_range ?z_set ?z_sorted
    (case q_Disk => k_is); (case pg_Disk => k_is); (case hd_Disk => k_is); (case po_Disk => k_is); (case sa_Disk => k_is); (case mk_Disk => k_is)
    (case kc_Disk => k_is); (case nf_Disk_kept => k_is); (case nf_Disk_rows => k_is); (case nf_Disk_left => k_is); (case er_n => k_is); (case er_t => k_is)
    (case q_MendError => k_is); (case be_MendError => k_is); (case ty_MendError => k_is); (case hd_MendError => k_is); (case q_Fallen => k_is); (case be_Fallen => k_is)
    (case ty_Fallen => k_is); (case hd_Fallen => k_is); (case kc_Fallen => k_is); (case xx_Fallen => k_exc); (case gg_Fallen => k_is); (case gk_Fallen => k_is)
    (case ga_Fallen => k_is); (case gm_Fallen => k_is); (case sv_Fallen => k_is); (case ss_Fallen_MendError => k_is); (case ss_Fallen_Fallen => k_is); (case a2 => k_is)
    (case i2 => k_is); (case l2 => k_is); (case c2 => k_is); (case k2 => k_is); (case a5 => k_is); (case i5 => k_is)
    (case l5 => k_is); (case c5 => k_is); (case k5 => k_is); (case a6 => k_is); (case i6 => k_is); (case l6 => k_is)
    (case c6 => k_is); (case k6 => k_is); (case a7 => k_is); (case i7 => k_is); (case l7 => k_is); (case c7 => k_is)
    (case k7 => k_is); (case a0 => k_is); (case l0 => k_is); (case c0 => k_is); (case k0 => k_is); (case a1 => k_is)
    (case i1 => k_is); (case l1 => k_is); (case c1 => k_is); (case k1 => k_is); (case a3 => k_is); (case i3 => k_is)
    (case l3 => k_is); (case c3 => k_is); (case k3 => k_is); (case a4 => k_is); (case i4 => k_is); (case l4 => k_is)
    (case c4 => k_is); (case k4 => k_is); (case a8 => k_is); (case i8 => k_is); (case l8 => k_is); (case c8 => k_is)
    (case k8 => k_is); (case a9 => k_is); (case l9 => k_is); (case c9 => k_is); (case k9 => k_is); (case a10 => k_is)
    (case l10 => k_is); (case c10 => k_is); (case k10 => k_is); (case a11 => k_is); (case l11 => k_is); (case c11 => k_is)
    (case k11 => k_is); (case a12 => k_is); (case l12 => k_is); (case c12 => k_is); (case k12 => k_is); (case a13 => k_is)
    (case l13 => k_is); (case c13 => k_is); (case k13 => k_is); (case a14 => k_is); (case l14 => k_is); (case c14 => k_is)
    (case k14 => k_is); (case a15 => k_is); (case l15 => k_is); (case c15 => k_is); (case k15 => k_is); (case a16 => k_is)
    (case l16 => k_is); (case c16 => k_is); (case k16 => k_is); (case z_dict => k_is); (case z_len => k_is); (case z_list => k_is)
    (case z_range => k_is); (case z_set => k_is); (case z_sorted => k_is)

