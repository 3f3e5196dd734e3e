import PyProof.Rows.All
import Wide.All
import OpenK.AllK
import Wide.FinOn
import HandS.ForMost
import HandS.Wide
import HandS.Gcd
import HandS.TupAny
import KE.GoesNew
import HandS.Conv
import HandS.Zip
import HandS.More
import KE.SortData
import HandS.RaiseMore
import KE.DataMinMax
import HandS.Dict
import KE.GoesNewDict
import HandS.Star
import HandS.EndBits
import PyProof.ReprLen
import PyProof.Rows.ReprOcc
import PySem.Challenge.RW_leastpowers_k53_polynomials
set_option Elab.async false
set_option linter.all false
set_option maxRecDepth 100000
set_option maxHeartbeats 4000000
/-! PD: plain data over the hand layer: values as data, own lists by value. -/
namespace PD
open PySem PySem.Spec PyProof.Rows L2

abbrev Frg := PySem.W.Frag
def kD : Key → PyData
  | .inl i => .int i
  | .inr s => .str s
def kT (ks : List Key) : PyData := .tuple (ks.map kD)

/-- the law's script (a list that is read alone) -/
def scrD (ds : List PyData) : PyData := .dict [(.none, .list ds)]
mutual
/-- a value of the frozen heap F reads as a datum -/
inductive Rp (K : Frg) (F : Hp) : V → PyData → Prop
  | non : Rp K F .non .none
  | bl (b : Bool) : Rp K F (.bl b) (.bool b)
  | int (i : Int) : Rp K F (.int i) (.int i)
  | str (x : Str) : Rp K F (.str x) (.str x)
  | lst {a : Addr} {xs : List V} {ds : List PyData} : F a = some (.lst xs) → RpAll K F xs ds → Rp K F (.ref a) (.list ds)
  | scr {a : Addr} {xs : List V} {ds : List PyData} : SqL K F a xs → RpAll K F xs ds → Rp K F (.ref a) (scrD ds)
  | tup {a : Addr} {xs : List V} {ds : List PyData} : F a = some (.tup xs) → RpAll K F xs ds → Rp K F (.ref a) (.tuple ds)
  | dcK {a : Addr} {kvs : List (Key × V)} {ds : List (PyData × PyData)} : Rd F a (.dK kvs) → kvs.map (fun p => kD p.1) = ds.map (·.1) → RpAll K F (kvs.map (·.2)) (ds.map (·.2)) → Rp K F (.ref a) (.dict ds)
  | dcT {a : Addr} {kvs : List (List Key × V)} {ds : List (PyData × PyData)} : Rd F a (.dT kvs) → kvs.map (fun p => kT p.1) = ds.map (·.1) → RpAll K F (kvs.map (·.2)) (ds.map (·.2)) → Rp K F (.ref a) (.dict ds)
inductive RpAll (K : Frg) (F : Hp) : List V → List PyData → Prop
  | nil : RpAll K F [] []
  | cons {v : V} {vs : List V} {d : PyData} {ds : List PyData} : Rp K F v d → RpAll K F vs ds → RpAll K F (v :: vs) (d :: ds)
end

section
variable {K : Frg} {F F' H H' : Hp}
theorem Same.rd {a : Addr} {u : HO} (e : Same F F') (h : Rd F a u) : Rd F' a u := h.elim (fun h => .inl (e _ _ h)) fun ⟨o, h⟩ => .inr ⟨o, e _ _ h⟩
theorem Same.sqL {a : Addr} {xs : List V} (e : Same F F') (h : SqL K F a xs) : SqL K F' a xs := h.elim (fun h => .inl (Same.rd e h)) .inr
theorem Same.sqT {a : Addr} {xs : List V} (e : Same F F') (h : SqT K F a xs) : SqT K F' a xs := h.elim (fun h => .inl (Same.rd e h)) .inr
mutual
theorem Rp.mono (e : Same F F') : ∀ {v : V} {d : PyData}, Rp K F v d → Rp K F' v d
  | _, _, .non => .non
  | _, _, .bl b => .bl b
  | _, _, .int i => .int i
  | _, _, .str x => .str x
  | _, _, .lst h r => .lst (e _ _ h) (RpAll.mono e r)
  | _, _, .scr h r => .scr (Same.sqL e h) (RpAll.mono e r)
  | _, _, .tup h r => .tup (e _ _ h) (RpAll.mono e r)
  | _, _, .dcK h k r => .dcK (Same.rd e h) k (RpAll.mono e r)
  | _, _, .dcT h k r => .dcT (Same.rd e h) k (RpAll.mono e r)
theorem RpAll.mono (e : Same F F') : ∀ {vs : List V} {ds : List PyData}, RpAll K F vs ds → RpAll K F' vs ds
  | _, _, .nil => .nil
  | _, _, .cons h r => .cons (Rp.mono e h) (RpAll.mono e r)
end
theorem RpAll.length : ∀ {vs : List V} {ds : List PyData}, RpAll K F vs ds → vs.length = ds.length
  | _, _, .nil => rfl
  | _, _, .cons _ r => by simp [RpAll.length r]
theorem RpAll.get : ∀ {vs : List V} {ds : List PyData} {i : Nat} {d : PyData}, RpAll K F vs ds → ds[i]? = some d → ∃ v, vs[i]? = some v ∧ Rp K F v d
  | _, _, _, _, .nil, e => by simp at e
  | _, _, 0, _, .cons h _, e => by simp at e; subst e; exact ⟨_, rfl, h⟩
  | _, _, i + 1, _, .cons _ r, e => by
    obtain ⟨v, h1, h2⟩ := RpAll.get (i := i) r (by simpa using e)
    exact ⟨v, by simpa using h1, h2⟩
theorem RpAll.get' : ∀ {vs : List V} {ds : List PyData} {i : Nat} {v : V}, RpAll K F vs ds → vs[i]? = some v → ∃ d, ds[i]? = some d ∧ Rp K F v d
  | _, _, _, _, .nil, e => by simp at e
  | _, _, 0, _, .cons h _, e => by simp at e; subst e; exact ⟨_, rfl, h⟩
  | _, _, i + 1, _, .cons _ r, e => by
    obtain ⟨d, h1, h2⟩ := RpAll.get' (i := i) r (by simpa using e)
    exact ⟨d, by simpa using h1, h2⟩
theorem RpAll.append : ∀ {vs ws : List V} {ds es : List PyData}, RpAll K F vs ds → RpAll K F ws es → RpAll K F (vs ++ ws) (ds ++ es)
  | _, _, _, _, .nil, r => r
  | _, _, _, _, .cons h t, r => .cons h (RpAll.append t r)
theorem RpAll.take : ∀ {vs : List V} {ds : List PyData} (n : Nat), RpAll K F vs ds → RpAll K F (vs.take n) (ds.take n)
  | _, _, 0, _ => .nil
  | _, _, _ + 1, .nil => .nil
  | _, _, n + 1, .cons h t => .cons h (RpAll.take n t)
theorem RpAll.drop : ∀ {vs : List V} {ds : List PyData} (n : Nat), RpAll K F vs ds → RpAll K F (vs.drop n) (ds.drop n)
  | _, _, 0, r => r
  | _, _, _ + 1, .nil => .nil
  | _, _, n + 1, .cons _ t => RpAll.drop n t
theorem RpAll.reverse {vs : List V} {ds : List PyData} (h : RpAll K F vs ds) : RpAll K F vs.reverse ds.reverse := by
  induction h using RpAll.rec (motive_1 := fun _ _ _ => True) with
  | nil => exact .nil
  | cons h t _ ih => rw [List.reverse_cons, List.reverse_cons]; exact RpAll.append ih (.cons h .nil)
  | _ => trivial
theorem RpAll.replicate {v : V} {d : PyData} (h : Rp K F v d) : ∀ n, RpAll K F (List.replicate n v) (List.replicate n d)
  | 0 => .nil
  | n + 1 => .cons h (RpAll.replicate h n)
theorem RpAll.ints : ∀ ns : List Int, RpAll K F (ns.map V.int) (ns.map PyData.int)
  | [] => .nil
  | n :: ns => .cons (.int n) (RpAll.ints ns)
end

/-! ### data without a list or a dict in it -/
mutual
def still : PyData → Bool
  | .none => true
  | .bool _ => true
  | .int _ => true
  | .str _ => true
  | .list _ => false
  | .tuple xs => stillAll xs
  | .dict _ => false
def stillAll : List PyData → Bool
  | [] => true
  | x :: xs => still x && stillAll xs
end
def isTupO : HO → Bool
  | .tup _ => true
  | .frz _ (.tup _) => true
  | _ => false
/-- F and the tuples of H -/
def tupsOf (F H : Hp) : Hp := fun a => match F a with
  | some o => some o
  | none => match H a with
    | some o => if isTupO o then some o else none
    | none => none
section
variable {K : Frg} {F F' H H' : Hp}
theorem tupsOf_F : Same F (tupsOf F H) := fun a o e => by unfold tupsOf; rw [e]
theorem tupsOf_H (h : Same F H) : Same (tupsOf F H) H := fun a o e => by
  unfold tupsOf at e
  cases q : F a with
  | some u => rw [q] at e; cases e; exact h _ _ q
  | none =>
    rw [q] at e
    cases q' : H a with
    | none => rw [q'] at e; cases e
    | some u =>
      rw [q'] at e
      simp only at e
      split at e
      · cases e; rfl
      · cases e
theorem tupsOf_new {a : Addr} {o : HO} (e : tupsOf F H a = some o) : F a = some o ∨ (F a = none ∧ H a = some o ∧ isTupO o = true) := by
  unfold tupsOf at e
  cases q : F a with
  | some u => rw [q] at e; exact .inl e
  | none =>
    rw [q] at e
    cases q' : H a with
    | none => rw [q'] at e; cases e
    | some u =>
      rw [q'] at e
      simp only at e
      split at e
      · rename_i hu; cases e; exact .inr ⟨rfl, rfl, hu⟩
      · cases e
theorem tupsOf_of {a : Addr} {o : HO} (h : Same F H) (e : H a = some o) (t : isTupO o = true) : tupsOf F H a = some o := by
  unfold tupsOf
  cases q : F a with
  | some u => have := h _ _ q; rw [e] at this; cases this; rfl
  | none => simp only; rw [e]; simp only; rw [if_pos t]
mutual
theorem Rp.still (h : Same F H) : ∀ {v : V} {d : PyData}, Rp K H v d → PD.still d = true → Rp K (tupsOf F H) v d
  | _, _, .non, _ => .non
  | _, _, .bl b, _ => .bl b
  | _, _, .int i, _ => .int i
  | _, _, .str x, _ => .str x
  | _, _, .tup q r, s => .tup (tupsOf_of h q rfl) (RpAll.still h r (by simpa [PD.still] using s))
  | _, _, .lst _ _, s => by simp [PD.still] at s
  | _, _, .scr _ _, s => by simp [PD.still, scrD] at s
  | _, _, .dcK _ _ _, s => by simp [PD.still] at s
  | _, _, .dcT _ _ _, s => by simp [PD.still] at s
theorem RpAll.still (h : Same F H) : ∀ {vs : List V} {ds : List PyData}, RpAll K H vs ds → stillAll ds = true → RpAll K (tupsOf F H) vs ds
  | _, _, .nil, _ => .nil
  | _, _, .cons q r, s => by
    simp [stillAll] at s
    exact .cons (Rp.still h q s.1) (RpAll.still h r s.2)
end
end

/-! ### own values -/
inductive OV where
  | fz (d : PyData)
  | ol (xs : List OV)
  | ok (ks : List Key) (xs : List OV)
  | ot (ks : List (List Key)) (xs : List OV)
mutual
def OV.erase : OV → PyData
  | .fz d => d
  | .ol xs => .list (OV.eraseL xs)
  | .ok ks xs => .dict ((ks.map kD).zip (OV.eraseL xs))
  | .ot ks xs => .dict ((ks.map kT).zip (OV.eraseL xs))
def OV.eraseL : List OV → List PyData
  | [] => []
  | x :: xs => OV.erase x :: OV.eraseL xs
end
theorem eraseL_map : ∀ xs : List OV, OV.eraseL xs = xs.map OV.erase
  | [] => by simp [OV.eraseL]
  | x :: xs => by simp [OV.eraseL, eraseL_map xs]
theorem eraseL_fz (ds : List PyData) : OV.eraseL (ds.map OV.fz) = ds := by
  induction ds with
  | nil => rfl
  | cons d ds ih => simp [OV.eraseL, OV.erase, ih]

mutual
inductive RO (K : Frg) (F H : Hp) : List Addr → V → OV → Prop
  | fz {v : V} {d : PyData} : Rp K F v d → RO K F H [] v (.fz d)
  | ol {a : Addr} {as : List Addr} {vs : List V} {xs : List OV} : H a = some (.lst vs) → ROs K F H as vs xs → RO K F H (a :: as) (.ref a) (.ol xs)
  | ok {a : Addr} {as : List Addr} {kvs : List (Key × V)} {ks : List Key} {xs : List OV} : H a = some (.dK kvs) → kvs.map (·.1) = ks → ROs K F H as (kvs.map (·.2)) xs → RO K F H (a :: as) (.ref a) (.ok ks xs)
  | ot {a : Addr} {as : List Addr} {kvs : List (List Key × V)} {ks : List (List Key)} {xs : List OV} : H a = some (.dT kvs) → kvs.map (·.1) = ks → ROs K F H as (kvs.map (·.2)) xs → RO K F H (a :: as) (.ref a) (.ot ks xs)
inductive ROs (K : Frg) (F H : Hp) : List Addr → List V → List OV → Prop
  | nil : ROs K F H [] [] []
  | cons {as bs : List Addr} {v : V} {vs : List V} {x : OV} {xs : List OV} : RO K F H as v x → ROs K F H bs vs xs → ROs K F H (as ++ bs) (v :: vs) (x :: xs)
end
def isOwnO : HO → Bool
  | .lst _ => true
  | .dK _ => true
  | .dT _ => true
  | _ => false
section
variable {K : Frg} {F F' H H' : Hp}
mutual
theorem RO.dom : ∀ {as : List Addr} {v : V} {x : OV}, RO K F H as v x → ∀ a ∈ as, ∃ o, H a = some o ∧ isOwnO o = true
  | _, _, _, .fz _, _, h => by cases h
  | _, _, _, .ol e r, a, h => (List.mem_cons.mp h).elim (fun q => by subst q; exact ⟨_, e, rfl⟩) fun q => ROs.dom r a q
  | _, _, _, .ok e _ r, a, h => (List.mem_cons.mp h).elim (fun q => by subst q; exact ⟨_, e, rfl⟩) fun q => ROs.dom r a q
  | _, _, _, .ot e _ r, a, h => (List.mem_cons.mp h).elim (fun q => by subst q; exact ⟨_, e, rfl⟩) fun q => ROs.dom r a q
theorem ROs.dom : ∀ {as : List Addr} {vs : List V} {xs : List OV}, ROs K F H as vs xs → ∀ a ∈ as, ∃ o, H a = some o ∧ isOwnO o = true
  | _, _, _, .nil, _, h => by cases h
  | _, _, _, .cons h r, a, q => (List.mem_append.mp q).elim (fun q => RO.dom h a q) fun q => ROs.dom r a q
end
mutual
theorem RO.frame (e : Same F F') : ∀ {as : List Addr} {v : V} {x : OV}, RO K F H as v x → (∀ a ∈ as, H' a = H a) → RO K F' H' as v x
  | _, _, _, .fz r, _ => .fz (r.mono e)
  | _, _, _, .ol q r, h => .ol ((h _ List.mem_cons_self).trans q) (ROs.frame e r fun a z => h a (List.mem_cons_of_mem _ z))
  | _, _, _, .ok q k r, h => .ok ((h _ List.mem_cons_self).trans q) k (ROs.frame e r fun a z => h a (List.mem_cons_of_mem _ z))
  | _, _, _, .ot q k r, h => .ot ((h _ List.mem_cons_self).trans q) k (ROs.frame e r fun a z => h a (List.mem_cons_of_mem _ z))
theorem ROs.frame (e : Same F F') : ∀ {as : List Addr} {vs : List V} {xs : List OV}, ROs K F H as vs xs → (∀ a ∈ as, H' a = H a) → ROs K F' H' as vs xs
  | _, _, _, .nil, _ => .nil
  | _, _, _, .cons q r, h => .cons (RO.frame e q fun a z => h a (List.mem_append_left _ z)) (ROs.frame e r fun a z => h a (List.mem_append_right _ z))
end
mutual
/-- read as a whole -/
theorem RO.all (e : Same F F') : ∀ {as : List Addr} {v : V} {x : OV}, RO K F H as v x → (∀ a ∈ as, F' a = H a) → Rp K F' v x.erase
  | _, _, _, .fz r, _ => by simpa [OV.erase] using r.mono e
  | _, _, _, .ol q r, h => by
    simp only [OV.erase]
    exact .lst ((h _ List.mem_cons_self).trans q) (ROs.all e r fun a z => h a (List.mem_cons_of_mem _ z))
  | _, _, _, .ok (xs := xs) (kvs := kvs) q k r, h => by
    have rr := ROs.all e r fun a z => h a (List.mem_cons_of_mem _ z)
    have hl : kvs.length = (OV.eraseL xs).length := by simpa using rr.length
    subst k
    simp only [OV.erase]
    refine .dcK (.inl ((h _ List.mem_cons_self).trans q)) ?_ ?_
    · rw [List.map_fst_zip (by simp [hl]), List.map_map]; rfl
    · rw [List.map_snd_zip (by simp [hl])]; exact rr
  | _, _, _, .ot (xs := xs) (kvs := kvs) q k r, h => by
    have rr := ROs.all e r fun a z => h a (List.mem_cons_of_mem _ z)
    have hl : kvs.length = (OV.eraseL xs).length := by simpa using rr.length
    subst k
    simp only [OV.erase]
    refine .dcT (.inl ((h _ List.mem_cons_self).trans q)) ?_ ?_
    · rw [List.map_fst_zip (by simp [hl]), List.map_map]; rfl
    · rw [List.map_snd_zip (by simp [hl])]; exact rr
theorem ROs.all (e : Same F F') : ∀ {as : List Addr} {vs : List V} {xs : List OV}, ROs K F H as vs xs → (∀ a ∈ as, F' a = H a) → RpAll K F' vs (OV.eraseL xs)
  | _, _, _, .nil, _ => by simp only [OV.eraseL]; exact .nil
  | _, _, _, .cons q r, h => by
    simp only [OV.eraseL]
    exact .cons (RO.all e q fun a z => h a (List.mem_append_left _ z)) (ROs.all e r fun a z => h a (List.mem_append_right _ z))
end
theorem ROs.length : ∀ {as : List Addr} {vs : List V} {xs : List OV}, ROs K F H as vs xs → vs.length = xs.length
  | _, _, _, .nil => rfl
  | _, _, _, .cons _ r => by simp [ROs.length r]
theorem ROs.fz : ∀ {vs : List V} {ds : List PyData}, RpAll K F vs ds → ROs K F H [] vs (ds.map OV.fz)
  | _, _, .nil => .nil
  | _, _, .cons h r => ROs.cons (as := []) (.fz h) (ROs.fz r)
theorem ROs.append : ∀ {as bs : List Addr} {vs ws : List V} {xs ys : List OV}, ROs K F H as vs xs → ROs K F H bs ws ys → ROs K F H (as ++ bs) (vs ++ ws) (xs ++ ys)
  | _, _, _, _, _, _, .nil, r => r
  | _, _, _, _, _, _, .cons h t, r => by
    rw [List.append_assoc]
    exact .cons h (ROs.append t r)
end

/-! ### the state -/
inductive SV where
  | un
  | v (o : OV)
  | io (o : OV)
abbrev SS := List SV
structure Ent where
  R : Hp
  F0 : Hp
  ref : Nat → V
structure St (K : Frg) (n : Ent) (F H : Hp) (σ : L2.St) (S : SS) (own : Nat → List Addr) : Prop where
  fh : Same F H
  rh : Same n.R H
  f0 : Same n.F0 F
  good : ∀ a o, F a = some o → isTupO o = true ∨ n.R a = none ∨ n.F0 a = some o
  len : S.length = σ.length
  slot : ∀ i o, S[i]? = some (.v o) → ∃ v, σ[i]? = some (some v) ∧ RO K F H (own i) v o
  slio : ∀ i o, S[i]? = some (.io o) → σ[i]? = some (some (n.ref i)) ∧ RO K F H (own i) (n.ref i) o
  un : ∀ i, (∀ o, S[i]? ≠ some (.v o)) → (∀ o, S[i]? ≠ some (.io o)) → own i = []
  nod : ∀ i, (own i).Nodup
  dis : ∀ i j, i ≠ j → ∀ a ∈ own i, a ∉ own j
  out : ∀ i, ∀ a ∈ own i, F a = none ∧ n.R a = none
/-- a fresh own value beside the state -/
structure Tmp (K : Frg) (n : Ent) (F H : Hp) (own : Nat → List Addr) (as : List Addr) (v : V) (x : OV) : Prop where
  ro : RO K F H as v x
  nod : as.Nodup
  out : ∀ a ∈ as, F a = none ∧ n.R a = none ∧ ∀ i, a ∉ own i
section
variable {K : Frg} {n : Ent} {F F' H H' : Hp} {σ : L2.St} {S : SS} {own : Nat → List Addr}
theorem Tmp.fz {v : V} {d : PyData} (h : Rp K F v d) : Tmp K n F H own [] v (.fz d) := ⟨.fz h, List.nodup_nil, fun _ h => nomatch h⟩
theorem St.dom (s : St K n F H σ S own) {i : Nat} {a : Addr} (h : a ∈ own i) : ∃ o, H a = some o ∧ isOwnO o = true := by
  cases e : S[i]? with
  | none => rw [s.un i (fun o q => by rw [e] at q; cases q) (fun o q => by rw [e] at q; cases q)] at h; cases h
  | some x =>
    cases x with
    | un => rw [s.un i (fun o q => by rw [e] at q; cases q) (fun o q => by rw [e] at q; cases q)] at h; cases h
    | v o => obtain ⟨v, _, r⟩ := s.slot i o e; exact r.dom a h
    | io o => exact (s.slio i o e).2.dom a h
/-- F grows (within H), H grows -/
theorem St.grow (s : St K n F H σ S own) (e : Same F F') (fh : Same F' H') (hh : Same H H') (g : ∀ a o, F' a = some o → F a = some o ∨ isTupO o = true ∨ H a = none) : St K n F' H' σ S own := by
  have hown : ∀ i, ∀ a ∈ own i, H' a = H a := fun i a h => by
    obtain ⟨o, q, _⟩ := s.dom h
    rw [q]; exact hh _ _ q
  refine ⟨fh, fun a o q => hh _ _ (s.rh a o q), fun a o q => e _ _ (s.f0 a o q), fun a o q => ?_, s.len, fun i o q => ?_, fun i o q => ?_, s.un, s.nod, s.dis, fun i a h => ⟨?_, (s.out i a h).2⟩⟩
  · rcases g a o q with z | z | z
    · exact s.good a o z
    · exact .inl z
    · refine .inr (.inl ?_)
      cases w : n.R a with
      | none => rfl
      | some u => rw [s.rh a u w] at z; cases z
  · obtain ⟨v, h1, h2⟩ := s.slot i o q
    exact ⟨v, h1, h2.frame e (hown i)⟩
  · exact ⟨(s.slio i o q).1, (s.slio i o q).2.frame e (hown i)⟩
  · cases q : F' a with
    | none => rfl
    | some u =>
      obtain ⟨o, q2, q3⟩ := s.dom h
      rcases g a u q with z | z | z
      · rw [(s.out i a h).1] at z; cases z
      · have := fh a u q
        rw [hown i a h, q2] at this
        cases this
        cases u <;> first | (exfalso; simp [isOwnO] at q3; done) | (exfalso; simp [isTupO] at z; done)
      · rw [q2] at z; cases z
/-- a new frozen object -/
theorem St.lay {p : Addr} {o : HO} (s : St K n F H σ S own) (hp : H p = none) : St K n (upd F p o) (upd H p o) σ S own ∧ Same F (upd F p o) ∧ Same H (upd H p o) := by
  have hF : F p = none := by
    cases q : F p with
    | none => rfl
    | some u => rw [s.fh p u q] at hp; cases hp
  have e1 : Same F (upd F p o) := fun a u q => by rw [upd_ne (ne_of_none q hF)]; exact q
  have e2 : Same H (upd H p o) := fun a u q => by rw [upd_ne (ne_of_none q hp)]; exact q
  refine ⟨s.grow e1 (fun a u q => ?_) e2 (fun a u q => ?_), e1, e2⟩
  · by_cases h : a = p
    · subst h; rw [upd_same] at q ⊢; exact q
    · rw [upd_ne h] at q ⊢; exact s.fh a u q
  · by_cases h : a = p
    · subst h; exact .inr (.inr hp)
    · rw [upd_ne h] at q; exact .inl q
/-- a new own object beside -/
theorem St.layOwn {p : Addr} {o : HO} (s : St K n F H σ S own) (hp : H p = none) : St K n F (upd H p o) σ S own ∧ Same H (upd H p o) ∧ F p = none ∧ n.R p = none ∧ ∀ i, p ∉ own i := by
  have e2 : Same H (upd H p o) := fun a u q => by rw [upd_ne (ne_of_none q hp)]; exact q
  refine ⟨s.grow (fun _ _ q => q) (fun a u q => e2 _ _ (s.fh a u q)) e2 (fun a u q => .inl q), e2, ?_, ?_, fun i h => ?_⟩
  · cases q : F p with
    | none => rfl
    | some u => rw [s.fh p u q] at hp; cases hp
  · cases q : n.R p with
    | none => rfl
    | some u => rw [s.rh p u q] at hp; cases hp
  · obtain ⟨o', q, _⟩ := s.dom h
    rw [hp] at q; cases q
/-- F with what stands at the addresses as -/
def adds (F H : Hp) (as : List Addr) : Hp := fun a => if a ∈ as then H a else F a
theorem adds_in {as : List Addr} {a : Addr} (h : a ∈ as) : adds F H as a = H a := if_pos h
theorem adds_out {as : List Addr} {a : Addr} (h : a ∉ as) : adds F H as a = F a := if_neg h
/-- a fresh own value is frozen -/
theorem Tmp.freeze {as : List Addr} {v : V} {x : OV} (s : St K n F H σ S own) (t : Tmp K n F H own as v x) :
    St K n (adds F H as) H σ S own ∧ Same F (adds F H as) ∧ Rp K (adds F H as) v x.erase := by
  have e1 : Same F (adds F H as) := fun a o q => by
    rw [adds_out fun z => by rw [(t.out a z).1] at q; cases q]; exact q
  refine ⟨⟨fun a o q => ?_, s.rh, fun a o q => e1 _ _ (s.f0 a o q), fun a o q => ?_, s.len, fun i o q => ?_, fun i o q => ?_, s.un, s.nod, s.dis, fun i a h => ⟨?_, (s.out i a h).2⟩⟩, e1, t.ro.all e1 fun a z => adds_in z⟩
  · by_cases z : a ∈ as
    · rw [adds_in z] at q; exact q
    · rw [adds_out z] at q; exact s.fh a o q
  · by_cases z : a ∈ as
    · exact .inr (.inl (t.out a z).2.1)
    · rw [adds_out z] at q; exact s.good a o q
  · obtain ⟨v, h1, h2⟩ := s.slot i o q
    exact ⟨v, h1, h2.frame e1 fun _ _ => rfl⟩
  · exact ⟨(s.slio i o q).1, (s.slio i o q).2.frame e1 fun _ _ => rfl⟩
  · rw [adds_out fun z => (t.out a z).2.2 i h]; exact (s.out i a h).1
/-- storing a fresh value into a slot -/
theorem St.put {as : List Addr} {v : V} {x : OV} {i : Nat} (s : St K n F H σ S own) (t : Tmp K n F H own as v x) (hi : i < σ.length) (hio : ∀ o, S[i]? ≠ some (.io o)) :
    St K n F H (σ.set i (some v)) (S.set i (.v x)) (fun j => if j = i then as else own j) := by
  have hiS : i < S.length := by rw [s.len]; exact hi
  refine ⟨s.fh, s.rh, s.f0, s.good, by simp [s.len], fun j o q => ?_, fun j o q => ?_, fun j h1 h2 => ?_, fun j => ?_, fun j k hjk a h => ?_, fun j a h => ?_⟩
  · by_cases z : j = i
    · subst z
      rw [List.getElem?_set_self hiS] at q
      cases q
      rw [if_pos rfl]
      exact ⟨v, List.getElem?_set_self hi, t.ro⟩
    · rw [List.getElem?_set_ne (Ne.symm z)] at q ⊢
      rw [if_neg z]
      exact s.slot j o q
  · by_cases z : j = i
    · subst z
      rw [List.getElem?_set_self hiS] at q
      cases q
    · rw [List.getElem?_set_ne (Ne.symm z)] at q ⊢
      rw [if_neg z]
      exact s.slio j o q
  · by_cases z : j = i
    · subst z
      exact absurd (List.getElem?_set_self hiS) (h1 x)
    · rw [if_neg z]
      exact s.un j (fun o q => h1 o (by rw [List.getElem?_set_ne (Ne.symm z)]; exact q)) (fun o q => h2 o (by rw [List.getElem?_set_ne (Ne.symm z)]; exact q))
  · show (if j = i then as else own j).Nodup
    split
    · exact t.nod
    · exact s.nod j
  · show a ∉ if k = i then as else own k
    have h : a ∈ if j = i then as else own j := h
    by_cases zj : j = i
    · rw [if_pos zj] at h
      rw [if_neg (fun q => hjk (zj.trans q.symm))]
      exact (t.out a h).2.2 k
    · rw [if_neg zj] at h
      by_cases zk : k = i
      · rw [if_pos zk]
        exact fun q => (t.out a q).2.2 j h
      · rw [if_neg zk]
        exact s.dis j k hjk a h
  · have h : a ∈ if j = i then as else own j := h
    split at h
    · exact ⟨(t.out a h).1, (t.out a h).2.1⟩
    · exact s.out j a h
/-- forgetting a slot -/
theorem St.drop {i : Nat} (s : St K n F H σ S own) (x : Option V) : St K n F H (σ.set i x) (S.set i .un) (fun j => if j = i then [] else own j) := by
  refine ⟨s.fh, s.rh, s.f0, s.good, by simp [s.len], fun j o q => ?_, fun j o q => ?_, fun j h1 h2 => ?_, fun j => ?_, fun j k hjk a h => ?_, fun j a h => ?_⟩
  · by_cases z : j = i
    · subst z
      by_cases hj : j < S.length
      · rw [List.getElem?_set_self hj] at q; cases q
      · rw [List.getElem?_eq_none (by simpa using hj)] at q; cases q
    · rw [List.getElem?_set_ne (Ne.symm z)] at q ⊢
      rw [if_neg z]
      exact s.slot j o q
  · by_cases z : j = i
    · subst z
      by_cases hj : j < S.length
      · rw [List.getElem?_set_self hj] at q; cases q
      · rw [List.getElem?_eq_none (by simpa using hj)] at q; cases q
    · rw [List.getElem?_set_ne (Ne.symm z)] at q ⊢
      rw [if_neg z]
      exact s.slio j o q
  · by_cases z : j = i
    · rw [if_pos z]
    · rw [if_neg z]
      exact s.un j (fun o q => h1 o (by rw [List.getElem?_set_ne (Ne.symm z)]; exact q)) (fun o q => h2 o (by rw [List.getElem?_set_ne (Ne.symm z)]; exact q))
  · show (if j = i then [] else own j).Nodup
    split
    · exact List.nodup_nil
    · exact s.nod j
  · show a ∉ if k = i then [] else own k
    have h : a ∈ if j = i then [] else own j := h
    by_cases zj : j = i
    · rw [if_pos zj] at h; cases h
    · rw [if_neg zj] at h
      by_cases zk : k = i
      · rw [if_pos zk]; exact fun q => nomatch q
      · rw [if_neg zk]
        exact s.dis j k hjk a h
  · have h : a ∈ if j = i then [] else own j := h
    split at h
    · cases h
    · exact s.out j a h
/-- the rest with what stands at as -/
def Ent.with (n : Ent) (H : Hp) (as : List Addr) : Ent := ⟨adds n.R H as, n.F0, n.ref⟩
/-- a fresh own value is laid aside while something else is reckoned -/
theorem Tmp.aside {as : List Addr} {v : V} {x : OV} (s : St K n F H σ S own) (t : Tmp K n F H own as v x) : St K (n.with H as) F H σ S own := by
  refine ⟨s.fh, fun a o q => ?_, s.f0, fun a o q => ?_, s.len, s.slot, s.slio, s.un, s.nod, s.dis, fun i a h => ⟨(s.out i a h).1, ?_⟩⟩
  · by_cases z : a ∈ as
    · rw [show (n.with H as).R a = H a from adds_in z] at q; exact q
    · rw [show (n.with H as).R a = n.R a from adds_out z] at q; exact s.rh a o q
  · by_cases z : a ∈ as
    · rw [(t.out a z).1] at q; cases q
    · rw [show (n.with H as).R a = n.R a from adds_out z]; exact s.good a o q
  · rw [show (n.with H as).R a = n.R a from adds_out fun z => (t.out a z).2.2 i h]; exact (s.out i a h).2
theorem Tmp.back {as : List Addr} {v : V} {x : OV} {σ' : L2.St} {S' : SS} {own' : Nat → List Addr} (s0 : St K n F H σ S own) (t : Tmp K n F H own as v x) (e : Same F F') (s : St K (n.with H as) F' H' σ' S' own') :
    St K n F' H' σ' S' own' ∧ Tmp K n F' H' own' as v x := by
  have hH : ∀ a ∈ as, H' a = H a := fun a z => by
    obtain ⟨o, q, _⟩ := t.ro.dom a z
    rw [q]
    exact s.rh a o ((show (n.with H as).R a = H a from adds_in z).trans q)
  have hR : ∀ a, (n.with H as).R a = none → n.R a = none ∧ a ∉ as := fun a q => by
    by_cases z : a ∈ as
    · obtain ⟨o, q2, _⟩ := t.ro.dom a z
      rw [show (n.with H as).R a = H a from adds_in z, q2] at q; cases q
    · exact ⟨by rw [show (n.with H as).R a = n.R a from adds_out z] at q; exact q, z⟩
  have hF : ∀ a ∈ as, F' a = none := fun a z => by
    obtain ⟨o, q2, q3⟩ := t.ro.dom a z
    cases q : F' a with
    | none => rfl
    | some u =>
      rcases s.good a u q with g | g | g
      · have := s.fh a u q
        rw [hH a z, q2] at this
        cases this
        cases o <;> first | (exfalso; simp [isOwnO] at q3; done) | (exfalso; simp [isTupO] at g; done)
      · exact absurd z (hR a g).2
      · have := s0.f0 a u g
        rw [(t.out a z).1] at this; cases this
  refine ⟨⟨s.fh, fun a o q => ?_, s.f0, fun a o q => ?_, s.len, s.slot, s.slio, s.un, s.nod, s.dis, fun i a h => ⟨(s.out i a h).1, (hR a (s.out i a h).2).1⟩⟩, ⟨t.ro.frame e hH, t.nod, fun a z => ⟨hF a z, (t.out a z).2.1, fun i h => (hR a (s.out i a h).2).2 z⟩⟩⟩
  · have z : a ∉ as := fun z => by rw [(t.out a z).2.1] at q; cases q
    exact s.rh a o ((show (n.with H as).R a = n.R a from adds_out z).trans q)
  · rcases s.good a o q with g | g | g
    · exact .inl g
    · exact .inr (.inl (hR a g).1)
    · exact .inr (.inr g)
end
end PD
set_option Elab.async false
set_option linter.all false
set_option maxRecDepth 100000
set_option maxHeartbeats 4000000
namespace PD
open PySem PySem.Spec PyProof.Rows L2

theorem _root_.L2.PE.imp {X : Cx} {e : Expr} {t t' : TE} (h : PE X e t) (i : ∀ σ H Q, t' σ H Q → t σ H Q) : PE X e t' := ⟨fun pins s σ H Q I q => h.run pins s σ H Q I (i σ H Q q)⟩
theorem _root_.L2.PT.imp {X : Cx} {e : Expr} {t t' : TT} (h : PT X e t) (i : ∀ σ H Q, t' σ H Q → t σ H Q) : PT X e t' := ⟨fun pins s σ H Q I q => h.run pins s σ H Q I (i σ H Q q)⟩
theorem _root_.L2.PW.imp {X : Cx} {e : Expr} {t t' : TT} (h : PW X e t) (i : ∀ σ H Q, t' σ H Q → t σ H Q) : PW X e t' := ⟨fun wh pins s σ H Q I q => h.run wh pins s σ H Q I (i σ H Q q)⟩
theorem _root_.L2.PA.imp {X : Cx} {es : List Expr} {t t' : TA} (h : PA X es t) (i : ∀ σ H Q, t' σ H Q → t σ H Q) : PA X es t' := ⟨fun pos pins s σ H Q I q => h.run pos pins s σ H Q I (i σ H Q q)⟩
theorem _root_.L2.PS.imp {X : Cx} {e : Stmt} {t t' : TS} (h : PS X e t) (i : ∀ D σ H, t' D σ H → t D σ H) : PS X e t' := ⟨fun pins s σ H D I q => h.run pins s σ H D I (i D σ H q)⟩
theorem _root_.L2.PSs.imp {X : Cx} {e : List Stmt} {t t' : TS} (h : PSs X e t) (i : ∀ D σ H, t' D σ H → t D σ H) : PSs X e t' := ⟨fun pins s σ H D I q => h.run pins s σ H D I (i D σ H q)⟩

abbrev EV := SS → Option (OV × SS)
abbrev EA := SS → Option (List OV × SS)
abbrev EB := SS → Option (Bool × SS)
def OV.isFz : OV → Bool
  | .fz _ => true
  | _ => false

/-- nothing but new objects -/
def Pu (p : Bool) (S S' : SS) (own own' : Nat → List Addr) (H H' : Hp) : Prop := p = true → S' = S ∧ own' = own ∧ Same H H'
theorem Pu.trans {p q : Bool} {S S1 S2 : SS} {o o1 o2 : Nat → List Addr} {H H1 H2 : Hp} (a : Pu p S S1 o o1 H H1) (b : Pu q S1 S2 o1 o2 H1 H2) : Pu (p && q) S S2 o o2 H H2 := fun h => by
  simp only [Bool.and_eq_true] at h
  obtain ⟨a1, a2, a3⟩ := a h.1
  obtain ⟨b1, b2, b3⟩ := b h.2
  exact ⟨b1.trans a1, b2.trans a2, a3.trans b3⟩
theorem Pu.refl {p : Bool} {S : SS} {o : Nat → List Addr} {H : Hp} : Pu p S S o o H H := fun _ => ⟨rfl, rfl, Same.refl H⟩
theorem Pu.same {p : Bool} {S : SS} {o : Nat → List Addr} {H H' : Hp} (e : Same H H') : Pu p S S o o H H' := fun _ => ⟨rfl, rfl, e⟩

def tX (K : Frg) (p : Bool) (f : EV) : TE := fun σ H Q => ∃ n F S own o S', St K n F H σ S own ∧ f S = some (o, S') ∧
  ∀ F' H' own' v as, Same F F' → St K n F' H' σ S' own' → RO K F' H' as v o → Pu p S S' own own' H H' → Q v H'
def tO (K : Frg) (p : Bool) (f : EV) : TE := fun σ H Q => ∃ n F S own o S', St K n F H σ S own ∧ f S = some (o, S') ∧
  ∀ F' H' own' v as, Same F F' → St K n F' H' σ S' own' → Tmp K n F' H' own' as v o → Pu p S S' own own' H H' → Q v H'
def tB' (K : Frg) (p : Bool) (f : EB) : TT := fun σ H Q => ∃ n F S own b S', St K n F H σ S own ∧ f S = some (b, S') ∧
  ∀ F' H' own', Same F F' → St K n F' H' σ S' own' → Pu p S S' own own' H H' → Q b H'
inductive ROx (K : Frg) (F H : Hp) : List V → List OV → Prop
  | nil : ROx K F H [] []
  | cons {v : V} {vs : List V} {o : OV} {os : List OV} {as : List Addr} : RO K F H as v o → ROx K F H vs os → ROx K F H (v :: vs) (o :: os)
def tA (K : Frg) (p : Bool) (f : EA) : TA := fun σ H Q => ∃ n F S own os S', St K n F H σ S own ∧ f S = some (os, S') ∧
  ∀ F' H' own' vs, Same F F' → St K n F' H' σ S' own' → ROx K F' H' vs os → Pu p S S' own own' H H' → Q vs H'

structure DX (X : Cx) (p : Bool) (e : Expr) (f : EV) : Prop where
  pe : PE X e (tX X.K p f)
structure DO (X : Cx) (p : Bool) (e : Expr) (f : EV) : Prop where
  pe : PE X e (tO X.K p f)
structure DT (X : Cx) (p : Bool) (e : Expr) (f : EB) : Prop where
  pt : PT X e (tB' X.K p f)
structure DW (X : Cx) (p : Bool) (e : Expr) (f : EB) : Prop where
  pw : PW X e (tB' X.K p f)
structure DA (X : Cx) (p : Bool) (es : List Expr) (f : EA) : Prop where
  pa : PA X es (tA X.K p f)

section
variable {X : Cx} {p pa pb pc : Bool} {e a b c : Expr} {es : List Expr} {f fa fb fc : EV} {ga : EA} {ta tb : EB} {pos : Pos} {K : Frg}

/-! ### coercions -/
theorem DO.x (h : DO X p e f) : DX X p e f := ⟨h.pe.imp fun σ H Q ⟨n, F, S, own, o, S', st, hf, q⟩ => ⟨n, F, S, own, o, S', st, hf, fun F' H' own' v as e st' t pu => q F' H' own' v as e st' t.ro pu⟩⟩
/-- the result must be frozen -/
def oFz (f : EV) : EV := fun S => match f S with
  | some (.fz d, S') => some (.fz d, S')
  | _ => none
theorem DX.fz (h : DX X p e f) : DO X p e (oFz f) := ⟨h.pe.imp fun σ H Q ⟨n, F, S, own, o, S', st, hf, q⟩ => by
  unfold oFz at hf
  split at hf
  · rename_i d S1 he
    cases hf
    exact ⟨n, F, S, own, _, _, st, he, fun F' H' own' v as e st' r pu => by
      cases r with
      | fz r => exact q F' H' own' v [] e st' (.fz r) pu⟩
  · cases hf⟩
/-- a fresh value is frozen -/
def oFr (f : EV) : EV := fun S => match f S with
  | some (o, S') => some (.fz o.erase, S')
  | none => none
theorem DO.fr (h : DO X p e f) : DO X p e (oFr f) := ⟨h.pe.imp fun σ H Q ⟨n, F, S, own, o, S', st, hf, q⟩ => by
  unfold oFr at hf
  split at hf
  · rename_i o1 S1 he
    cases hf
    refine ⟨n, F, S, own, _, _, st, he, fun F' H' own' v as e st' t pu => ?_⟩
    obtain ⟨s2, e2, r⟩ := t.freeze st'
    exact q _ H' own' v [] (e.trans e2) s2 (.fz r) pu
  · cases hf⟩
theorem RO.rpH {F H : Hp} {as : List Addr} {v : V} {o : OV} (h : RO K F H as v o) (e : Same F H) : Rp K H v o.erase := h.all e fun _ _ => rfl
theorem ROx.rpH {F H : Hp} (e : Same F H) : ∀ {vs : List V} {os : List OV}, ROx K F H vs os → RpAll K H vs (OV.eraseL os)
  | _, _, .nil => by simp only [OV.eraseL]; exact .nil
  | _, _, .cons h r => by simp only [OV.eraseL]; exact .cons (h.rpH e) (ROx.rpH e r)
theorem St.still {n : Ent} {F H : Hp} {σ : L2.St} {S : SS} {own : Nat → List Addr} (s : St K n F H σ S own) : St K n (tupsOf F H) H σ S own ∧ Same F (tupsOf F H) := by
  refine ⟨s.grow tupsOf_F (tupsOf_H s.fh) (Same.refl H) fun a o q => ?_, tupsOf_F⟩
  rcases tupsOf_new q with z | ⟨_, _, z⟩
  · exact .inl z
  · exact .inr (.inl z)
/-- a read without a list or dict in it -/
def oSt (f : EV) : EV := fun S => match f S with
  | some (o, S') => if still o.erase then some (.fz o.erase, S') else none
  | none => none
theorem DX.st (h : DX X p e f) : DO X p e (oSt f) := ⟨h.pe.imp fun σ H Q ⟨n, F, S, own, o, S', st, hf, q⟩ => by
  unfold oSt at hf
  split at hf
  · rename_i o1 S1 he
    split at hf
    · rename_i hs
      cases hf
      refine ⟨n, F, S, own, _, _, st, he, fun F' H' own' v as e st' r pu => ?_⟩
      obtain ⟨s2, e2⟩ := st'.still
      exact q _ H' own' v [] (e.trans e2) s2 (.fz ((r.rpH st'.fh).still st'.fh hs)) pu
    · cases hf
  · cases hf⟩

/-! ### names, constants -/
def eVar (i : Nat) : EV := fun S => match S[i]? with
  | some (.v o) => some (o, S)
  | some (.io o) => some (o, S)
  | _ => none
theorem d_var (i : Nat) {x : Str} {pos : Pos} (h : PE X (.Name x pos) (tVar i)) : DX X true (.Name x pos) (eVar i) := ⟨h.imp fun σ H Q ⟨n, F, S, own, o, S', st, hf, q⟩ => by
  unfold eVar at hf
  split at hf
  · rename_i o1 he
    cases hf
    obtain ⟨v, h1, h2⟩ := st.slot i _ he
    exact ⟨v, h1, q F H own v _ (Same.refl F) st h2 .refl⟩
  · rename_i o1 he
    cases hf
    obtain ⟨h1, h2⟩ := st.slio i _ he
    exact ⟨_, h1, q F H own _ _ (Same.refl F) st h2 .refl⟩
  · cases hf⟩
/-- a name that isn't changed any more: what it holds is frozen -/
def eMov (i : Nat) : EV := fun S => match S[i]? with
  | some (.v o) => some (.fz o.erase, S.set i (.v (.fz o.erase)))
  | _ => none
theorem St.frozen {n : Ent} {F H : Hp} {σ : L2.St} {S : SS} {own : Nat → List Addr} {i : Nat} {o : OV} (s : St K n F H σ S own) (h : S[i]? = some (.v o)) :
    ∃ v, σ[i]? = some (some v) ∧ St K n (adds F H (own i)) H σ (S.set i (.v (.fz o.erase))) (fun j => if j = i then [] else own j) ∧ Same F (adds F H (own i)) ∧ Rp K (adds F H (own i)) v o.erase := by
  obtain ⟨v, h1, h2⟩ := s.slot i o h
  have s0 := s.drop (i := i) (some v)
  have hi : i < σ.length := (List.getElem?_eq_some_iff.mp h1).1
  have hσ : σ.set i (some v) = σ := by
    apply List.ext_getElem?
    intro j
    by_cases z : j = i
    · subst z; rw [List.getElem?_set_self hi, h1]
    · rw [List.getElem?_set_ne (Ne.symm z)]
  rw [hσ] at s0
  have t : Tmp K n F H (fun j => if j = i then [] else own j) (own i) v o := ⟨h2, s.nod i, fun a ha => ⟨(s.out i a ha).1, (s.out i a ha).2, fun j => by
    show a ∉ if j = i then [] else own j
    split
    · exact fun q => nomatch q
    · rename_i z; exact fun q => s.dis j i z a q ha⟩⟩
  obtain ⟨s1, e1, r⟩ := t.freeze s0
  have s2 := s1.put (i := i) (Tmp.fz r) hi (fun o q => by
    have hiS : i < S.length := by rw [s.len]; exact hi
    rw [List.getElem?_set_self hiS] at q; cases q)
  rw [hσ, List.set_set] at s2
  refine ⟨v, h1, ?_, e1, r⟩
  have : (fun j => if j = i then [] else if j = i then [] else own j) = fun j => if j = i then ([] : List Addr) else own j := by
    funext j; split <;> rfl
  rw [this] at s2
  exact s2
theorem d_mov (i : Nat) {x : Str} {pos : Pos} (h : PE X (.Name x pos) (tVar i)) : DO X false (.Name x pos) (eMov i) := ⟨h.imp fun σ H Q ⟨n, F, S, own, o, S', st, hf, q⟩ => by
  unfold eMov at hf
  split at hf
  · rename_i o1 he
    cases hf
    obtain ⟨v, h1, s2, e1, r⟩ := st.frozen he
    exact ⟨v, h1, q _ H _ v [] e1 s2 (.fz r) (fun z => nomatch z)⟩
  · cases hf⟩
def eC (d : PyData) : EV := fun S => some (.fz d, S)
theorem d_c {v : V} {d : PyData} (h : PE X e (tC v)) (r : ∀ F, Rp X.K F v d) : DO X true e (eC d) := ⟨h.imp fun σ H Q ⟨n, F, S, own, o, S', st, hf, q⟩ => by
  cases hf
  exact q F H own v [] (Same.refl F) st (.fz (r F)) .refl⟩
theorem d_int {i j pos} : DO X true (.Constant (.int i) j pos) (eC (.int i)) := d_c pe_int fun _ => .int i
theorem d_bl {b j pos} : DO X true (.Constant (.bool b) j pos) (eC (.bool b)) := d_c pe_bl fun _ => .bl b
theorem d_non {j pos} : DO X true (.Constant .none j pos) (eC .none) := d_c pe_non fun _ => .non
theorem d_str {x j pos} : DO X true (.Constant (.str x) j pos) (eC (.str x)) := d_c pe_str fun _ => .str x

/-! ### arguments -/
def aNil : EA := fun S => some ([], S)
def aCons (pb : Bool) (fa : EV) (fb : EA) : EA := fun S => match fa S with
  | some (x, S1) => if pb || x.isFz then (match fb S1 with
    | some (xs, S2) => some (x :: xs, S2)
    | none => none) else none
  | none => none
theorem RO.persist {n : Ent} {F F' H H' : Hp} {σ : L2.St} {S S' : SS} {own own' : Nat → List Addr} {as : List Addr} {v : V} {x : OV} (h : RO K F H as v x) (e : Same F F') (hb : (pb || x.isFz) = true) (pu : Pu pb S S' own own' H H') : RO K F' H' as v x := by
  cases x with
  | fz d => cases h with | fz r => exact .fz (r.mono e)
  | ol xs =>
    obtain ⟨_, _, hh⟩ := pu (by simpa [OV.isFz] using hb)
    exact h.frame e fun a ha => by obtain ⟨o, q, _⟩ := h.dom a ha; rw [q]; exact hh _ _ q
  | ok ks xs =>
    obtain ⟨_, _, hh⟩ := pu (by simpa [OV.isFz] using hb)
    exact h.frame e fun a ha => by obtain ⟨o, q, _⟩ := h.dom a ha; rw [q]; exact hh _ _ q
  | ot ks xs =>
    obtain ⟨_, _, hh⟩ := pu (by simpa [OV.isFz] using hb)
    exact h.frame e fun a ha => by obtain ⟨o, q, _⟩ := h.dom a ha; rw [q]; exact hh _ _ q
theorem a_nil : DA X true [] aNil := ⟨pa_nil.imp fun σ H Q ⟨n, F, S, own, os, S', st, hf, q⟩ => by
  cases hf
  exact q F H own [] (Same.refl F) st .nil .refl⟩
theorem a_cons (ha : DX X pa e fa) (hb : DA X pb es ga) (hs : starEach (e :: es) X.env = (false, eval e X.env) :: starEach es X.env := by rfl) : DA X (pa && pb) (e :: es) (aCons pb fa ga) := ⟨(pa_cons ha.pe hb.pa hs).imp fun σ H Q ⟨n, F, S, own, os, S', st, hf, q⟩ => by
  unfold aCons at hf
  split at hf
  · rename_i x S1 h1
    split at hf
    · rename_i hx
      split at hf
      · rename_i xs S2 h2
        cases hf
        refine ⟨n, F, S, own, x, S1, st, h1, fun F1 H1 own1 v as e1 st1 r1 pu1 => ?_⟩
        refine ⟨n, F1, S1, own1, xs, S', st1, h2, fun F2 H2 own2 vs e2 st2 r2 pu2 => ?_⟩
        exact q F2 H2 own2 (v :: vs) (e1.trans e2) st2 (.cons (r1.persist (n := n) (σ := σ) e2 hx pu2) r2) (pu1.trans pu2)
      · cases hf
    · cases hf
  · cases hf⟩

/-! ### operators by values -/
/-- the end of an operation: a fresh value beside the state, all that stood stands -/
def OpEnd (K : Frg) (n : Ent) (F H : Hp) (σ : L2.St) (S : SS) (own : Nat → List Addr) (o : OV) (Q : VK) : Prop :=
  ∀ F' H' v as, Same F F' → Same H H' → St K n F' H' σ S own → Tmp K n F' H' own as v o → Q v H'
theorem OpEnd.val {n : Ent} {F H : Hp} {σ : L2.St} {S : SS} {own : Nat → List Addr} {d : PyData} {Q : VK} {v : V} (h : OpEnd K n F H σ S own (.fz d) Q) (st : St K n F H σ S own) (r : Rp K F v d) : Q v H :=
  h F H v [] (Same.refl F) (Same.refl H) st (.fz r)
def OpX (K : Frg) (r : R2) (g : OV → OV → Option OV) : Prop := ∀ n F H σ S own x y o1 o2 as bs o Q, St K n F H σ S own → RO K F H as x o1 → RO K F H bs y o2 → g o1 o2 = some o → OpEnd K n F H σ S own o Q → r x y H Q
def UnX (K : Frg) (r : V → Hp → VK → Prop) (g : OV → Option OV) : Prop := ∀ n F H σ S own x o1 as o Q, St K n F H σ S own → RO K F H as x o1 → g o1 = some o → OpEnd K n F H σ S own o Q → r x H Q
def CallX (K : Frg) (r : List V → Hp → VK → Prop) (g : List OV → Option OV) : Prop := ∀ n F H σ S own xs os o Q, St K n F H σ S own → ROx K F H xs os → g os = some o → OpEnd K n F H σ S own o Q → r xs H Q
def eBin (g : OV → OV → Option OV) (pb : Bool) (fa fb : EV) : EV := fun S => match fa S with
  | some (x, S1) => if pb || x.isFz then (match fb S1 with
    | some (y, S2) => (match g x y with
      | some o => some (o, S2)
      | none => none)
    | none => none) else none
  | none => none
def eUn (g : OV → Option OV) (fa : EV) : EV := fun S => match fa S with
  | some (x, S1) => (match g x with
    | some o => some (o, S1)
    | none => none)
  | none => none
def eCall (g : List OV → Option OV) (fa : EA) : EV := fun S => match fa S with
  | some (x, S1) => (match g x with
    | some o => some (o, S1)
    | none => none)
  | none => none
theorem bin_imp {r : R2} {g : OV → OV → Option OV} (hg : OpX K r g) (σ : L2.St) (H : Hp) (Q : VK) : tO K (pa && pb) (eBin g pb fa fb) σ H Q → tOp r (tX K pa fa) (tX K pb fb) σ H Q := fun ⟨n, F, S, own, o, S', st, hf, q⟩ => by
  unfold eBin at hf
  split at hf
  · rename_i x S1 h1
    split at hf
    · rename_i hx
      split at hf
      · rename_i y S2 h2
        split at hf
        · rename_i o1 h3
          cases hf
          refine ⟨n, F, S, own, x, S1, st, h1, fun F1 H1 own1 v as e1 st1 r1 pu1 => ?_⟩
          refine ⟨n, F1, S1, own1, y, S', st1, h2, fun F2 H2 own2 w bs e2 st2 r2 pu2 => ?_⟩
          refine hg n F2 H2 σ S' own2 v w x y as bs o _ st2 (r1.persist (n := n) (σ := σ) e2 hx pu2) r2 h3 fun F3 H3 z cs e3 hh st3 t => ?_
          exact q F3 H3 own2 z cs (e1.trans (e2.trans e3)) st3 t (by
            have := (pu1.trans pu2).trans (Pu.same (p := true) (S := S') (o := own2) hh)
            simpa using this)
        · cases hf
      · cases hf
    · cases hf
  · cases hf
theorem un_imp {r : V → Hp → VK → Prop} {g : OV → Option OV} (hg : UnX K r g) (σ : L2.St) (H : Hp) (Q : VK) : tO K pa (eUn g fa) σ H Q → tX K pa fa σ H (fun x H1 => r x H1 Q) := fun ⟨n, F, S, own, o, S', st, hf, q⟩ => by
  unfold eUn at hf
  split at hf
  · rename_i x S1 h1
    split at hf
    · rename_i o1 h3
      cases hf
      refine ⟨n, F, S, own, x, S', st, h1, fun F1 H1 own1 v as e1 st1 r1 pu1 => ?_⟩
      refine hg n F1 H1 σ S' own1 v x as o _ st1 r1 h3 fun F3 H3 z cs e3 hh st3 t => ?_
      exact q F3 H3 own1 z cs (e1.trans e3) st3 t (by
        have := pu1.trans (Pu.same (p := true) (S := S') (o := own1) hh)
        simpa using this)
    · cases hf
  · cases hf
theorem call_imp {r : List V → Hp → VK → Prop} {g : List OV → Option OV} (hg : CallX K r g) (σ : L2.St) (H : Hp) (Q : VK) : tO K pa (eCall g ga) σ H Q → tA K pa ga σ H (fun x H1 => r x H1 Q) := fun ⟨n, F, S, own, o, S', st, hf, q⟩ => by
  unfold eCall at hf
  split at hf
  · rename_i x S1 h1
    split at hf
    · rename_i o1 h3
      cases hf
      refine ⟨n, F, S, own, x, S', st, h1, fun F1 H1 own1 vs e1 st1 r1 pu1 => ?_⟩
      refine hg n F1 H1 σ S' own1 vs x o _ st1 r1 h3 fun F3 H3 z cs e3 hh st3 t => ?_
      exact q F3 H3 own1 z cs (e1.trans e3) st3 t (by
        have := pu1.trans (Pu.same (p := true) (S := S') (o := own1) hh)
        simpa using this)
    · cases hf
  · cases hf
/-- a op b -/
theorem d_op {op : Operator} {r : R2} {g : OV → OV → Option OV} (ho : OpR X (binaryOp op) r) (hg : OpX X.K r g) (ha : DX X pa a fa) (hb : DX X pb b fb) : DO X (pa && pb) (.BinOp a op b pos) (eBin g pb fa fb) := ⟨(pe_op ho ha.pe hb.pe).imp (bin_imp hg)⟩
theorem d_un {op : UnaryOp} {r : V → Hp → VK → Prop} {g : OV → Option OV} (ho : UnR X (unaryOp op) r) (hg : UnX X.K r g) (ha : DX X pa a fa) : DO X pa (.UnaryOp op a pos) (eUn g fa) := ⟨(pe_un ho ha.pe).imp (un_imp hg)⟩
theorem d_cmp {op : CmpOp} {r : R2} {g : OV → OV → Option OV} (ho : OpR X (compareOp op) r) (hg : OpX X.K r g) (ha : DX X pa a fa) (hb : DX X pb b fb) (hm : behindInMarks op b = false) : DO X (pa && pb) (.Compare a [op] [b] pos) (eBin g pb fa fb) := ⟨(pe_cmpR ho ha.pe hb.pe hm).imp (bin_imp hg)⟩
theorem d_ix {r : R2} {g : OV → OV → Option OV} (hr : IxR X r) (hg : OpX X.K r g) (ha : DX X pa a fa) (hb : DX X pb b fb) (hs : PlainIx b := by exact fun _ _ => rfl) : DO X (pa && pb) (.Subscript a b pos) (eBin g pb fa fb) := ⟨(pe_ix hr ha.pe hb.pe hs).imp (bin_imp hg)⟩
theorem d_callB {r : List V → Hp → VK → Prop} {g : List OV → Option OV} {x : Str} {id : String} {p' : Pos} (hc : CallR X (.builtin id) r) (hx : CallX X.K r g) (hg : Gl X x) (hm : X.mg x = none) (hv : bootBuiltins x = some (.builtin id)) (ha : DA X pa (e :: es) ga)
    (hn : x ≠ "__name__" := by decide) (hdb : (x == ("__debug__" : Str)) = false := by decide) (he : starEach (e :: es) X.env = (false, eval e X.env) :: starEach es X.env := by rfl) (hpl : (backTo pos (starEach es X.env)).any (·.1) = false := by rfl) :
    DO X pa (.Call (.Name x p') (e :: es) [] pos) (eCall g ga) := ⟨(pe_callB hc hg hm hv ha.pa hn hdb he hpl).imp (call_imp hx)⟩
theorem d_callTy {r : List V → Hp → VK → Prop} {g : List OV → Option OV} {x : Str} {T : String} {p' : Pos} (hc : CallR X (.type T) r) (hx : CallX X.K r g) (hg : Gl X x) (hm : X.mg x = none) (hv : bootBuiltins x = some (.type T)) (ha : DA X pa (e :: es) ga)
    (hn : x ≠ "__name__" := by decide) (hdb : (x == ("__debug__" : Str)) = false := by decide) (he : starEach (e :: es) X.env = (false, eval e X.env) :: starEach es X.env := by rfl) (hpl : (backTo pos (starEach es X.env)).any (·.1) = false := by rfl) :
    DO X pa (.Call (.Name x p') (e :: es) [] pos) (eCall g ga) := ⟨(pe_callTy hc hg hm hv ha.pa hn hdb he hpl).imp (call_imp hx)⟩
theorem opr_imp {f : Value → Value → Sem Value} {r r' : R2} (h : OpR X f r) (i : ∀ x y H Q, r' x y H Q → r x y H Q) : OpR X f r' := fun pins s σ H x y v u Q I r1 r2 q => h pins s σ H x y v u Q I r1 r2 (i _ _ _ _ q)
theorem OpX.or {r1 r2 : R2} {g1 g2 : OV → OV → Option OV} (h1 : OpX K r1 g1) (h2 : OpX K r2 g2) : OpX K (fun x y H Q => r1 x y H Q ∨ r2 x y H Q) (fun x y => match g1 x y with | some o => some o | none => g2 x y) := by
  intro n F H σ S own x y o1 o2 as bs o Q st rx ry hg he
  simp only at hg
  split at hg
  · rename_i o' h
    cases hg
    exact .inl (h1 n F H σ S own x y o1 o2 as bs _ Q st rx ry h he)
  · exact .inr (h2 n F H σ S own x y o1 o2 as bs o Q st rx ry hg he)

/-! ### displays -/
theorem ROx.fzAll {F H : Hp} : ∀ {vs : List V} {ds : List PyData}, ROx K F H vs (ds.map OV.fz) → RpAll K F vs ds
  | [], [], _ => .nil
  | [], _ :: _, h => by cases h
  | _ :: _, [], h => by cases h
  | v :: vs, d :: ds, h => by
    cases h with
    | cons h r =>
      cases h with
      | fz h => exact .cons h (ROx.fzAll r)
def allFz : List OV → Option (List PyData)
  | [] => some []
  | .fz d :: xs => (allFz xs).map (d :: ·)
  | _ :: _ => none
theorem allFz_map : ∀ {xs : List OV} {ds : List PyData}, allFz xs = some ds → xs = ds.map OV.fz
  | [], _, h => by cases h; rfl
  | .fz d :: xs, ds, h => by
    simp only [allFz, Option.map_eq_some_iff] at h
    obtain ⟨es, h1, rfl⟩ := h
    rw [allFz_map h1]; rfl
  | .ol _ :: _, _, h => by cases h
  | .ok _ _ :: _, _, h => by cases h
  | .ot _ _ :: _, _, h => by cases h
@[simp] theorem allFz_fz : ∀ ds : List PyData, allFz (ds.map OV.fz) = some ds
  | [] => rfl
  | d :: ds => by simp [allFz, allFz_fz ds]
def gTup' (xs : List OV) : Option OV := match allFz xs with
  | some ds => if ds.length ≤ sizeLine then some (.fz (.tuple ds)) else none
  | none => none
def gLst' (xs : List OV) : Option OV := match allFz xs with
  | some ds => if ds.length ≤ sizeLine then some (.ol (ds.map OV.fz)) else none
  | none => none
theorem end_tup {n : Ent} {F H : Hp} {σ : L2.St} {S : SS} {own : Nat → List Addr} {vs : List V} {ds : List PyData} {Q : VK} (st : St K n F H σ S own) (r : RpAll K F vs ds) (h : OpEnd K n F H σ S own (.fz (.tuple ds)) Q) : ∀ p, H p = none → Q (.ref p) (upd H p (.tup vs)) := fun p hp => by
  obtain ⟨s2, e1, e2⟩ := st.lay (o := .tup vs) hp
  exact h _ _ _ [] e1 e2 s2 (.fz (.tup upd_same (r.mono e1)))
theorem end_lst {n : Ent} {F H : Hp} {σ : L2.St} {S : SS} {own : Nat → List Addr} {vs : List V} {ds : List PyData} {Q : VK} (st : St K n F H σ S own) (r : RpAll K F vs ds) (h : OpEnd K n F H σ S own (.ol (ds.map OV.fz)) Q) : ∀ p, H p = none → Q (.ref p) (upd H p (.lst vs)) := fun p hp => by
  obtain ⟨s2, e2, h1, h2, h3⟩ := st.layOwn (o := .lst vs) hp
  refine h _ _ _ [p] (Same.refl F) e2 s2 ⟨.ol upd_same (ROs.fz r), by simp, fun a ha => ?_⟩
  have : a = p := by simpa using ha
  subst this
  exact ⟨h1, h2, h3⟩
theorem call_tup : CallX K (fun vs H Q => vs.length ≤ sizeLine ∧ ∀ p, H p = none → Q (.ref p) (upd H p (.tup vs))) gTup' := by
  intro n F H σ S own xs os o Q st r hg he
  unfold gTup' at hg
  split at hg
  · rename_i ds h1
    split at hg
    · rename_i hz
      cases hg
      have := allFz_map h1
      subst this
      have rr := r.fzAll
      exact ⟨by rw [rr.length]; exact hz, end_tup st rr he⟩
    · cases hg
  · cases hg
theorem call_lst : CallX K (fun vs H Q => vs.length ≤ sizeLine ∧ ∀ p, H p = none → Q (.ref p) (upd H p (.lst vs))) gLst' := by
  intro n F H σ S own xs os o Q st r hg he
  unfold gLst' at hg
  split at hg
  · rename_i ds h1
    split at hg
    · rename_i hz
      cases hg
      have := allFz_map h1
      subst this
      have rr := r.fzAll
      exact ⟨by rw [rr.length]; exact hz, end_lst st rr he⟩
    · cases hg
  · cases hg
theorem d_tup {k : Nat} (h : DA X p es ga) : DO X p (.Tuple es k pos) (eCall gTup' ga) := ⟨(pe_tup h.pa).imp (call_imp call_tup)⟩
theorem d_lst (h : DA X p es ga) : DO X p (.List es pos) (eCall gLst' ga) := ⟨(pe_lst h.pa).imp (call_imp call_lst)⟩

/-! ### ints -/
theorem RO.int_v {F H : Hp} {as : List Addr} {v : V} {i : Int} (h : RO K F H as v (.fz (.int i))) : v = .int i := by
  cases h with | fz h => cases h; rfl
def gI (C : Int → Int → Bool) (g : Int → Int → PyData) : OV → OV → Option OV
  | .fz (.int i), .fz (.int j) => if C i j then some (.fz (g i j)) else none
  | _, _ => none
theorem opx_I {C : Int → Int → Prop} {C' : Int → Int → Bool} {gv : Int → Int → V} {g : Int → Int → PyData} (hC : ∀ i j, C' i j = true → C i j) (hg : ∀ F i j, Rp K F (gv i j) (g i j)) : OpX K (rI C gv) (gI C' g) := by
  intro n F H σ S own x y o1 o2 as bs o Q st rx ry h he
  unfold gI at h
  split at h
  · split at h
    · rename_i i j hc
      cases h
      cases rx.int_v
      cases ry.int_v
      exact ⟨i, j, rfl, rfl, hC i j hc, he.val st (hg F i j)⟩
    · cases h
  · cases h
theorem opx_I0 {gv : Int → Int → V} {g : Int → Int → PyData} (hg : ∀ F i j, Rp K F (gv i j) (g i j)) : OpX K (rI0 gv) (gI (fun _ _ => true) g) := by
  intro n F H σ S own x y o1 o2 as bs o Q st rx ry h he
  unfold gI at h
  split at h
  · rename_i i j
    rw [if_pos rfl] at h
    cases h
    cases rx.int_v
    cases ry.int_v
    exact ⟨i, j, rfl, rfl, he.val st (hg F i j)⟩
  · cases h
def gAdd : OV → OV → Option OV := gI (fun _ _ => true) fun i j => .int (i + j)
def gSub : OV → OV → Option OV := gI (fun _ _ => true) fun i j => .int (i - j)
/-- a product: both below 2^400000, or one small -/
def okMul (i j : Int) : Bool := decide (i.natAbs.log2 + j.natAbs.log2 < 400000)
def gMul : OV → OV → Option OV := gI okMul fun i j => .int (i * j)
def okDiv (i j : Int) : Bool := decide (0 < j ∧ j.natAbs.log2 < 8000)
def gDiv : OV → OV → Option OV := gI okDiv fun i j => .int (i / j)
def gMod : OV → OV → Option OV := gI (fun _ j => decide (0 < j)) fun i j => .int (i % j)
def gLt : OV → OV → Option OV := gI (fun _ _ => true) fun i j => .bool (decide (i < j))
def gLe : OV → OV → Option OV := gI (fun _ _ => true) fun i j => .bool (decide (i ≤ j))
def gGt : OV → OV → Option OV := gI (fun _ _ => true) fun i j => .bool (decide (j < i))
def gGe : OV → OV → Option OV := gI (fun _ _ => true) fun i j => .bool (decide (j ≤ i))
theorem ox_add : OpX K (rI0 fun i j => .int (i + j)) gAdd := opx_I0 fun _ _ _ => .int _
theorem ox_sub : OpX K (rI0 fun i j => .int (i - j)) gSub := opx_I0 fun _ _ _ => .int _
theorem ox_mul : OpX K (rI CMulW fun i j => .int (i * j)) gMul := opx_I (fun _ _ h => Nat.lt_of_lt_of_le (of_decide_eq_true h) (by decide)) fun _ _ _ => .int _
theorem ox_div : OpX K (rI CDivW fun i j => .int (i / j)) gDiv := opx_I (fun _ _ h => ⟨(of_decide_eq_true h).1, Nat.lt_of_lt_of_le (of_decide_eq_true h).2 (by decide)⟩) fun _ _ _ => .int _
theorem ox_mod : OpX K (rI (fun _ j => 0 < j) fun i j => .int (i % j)) gMod := opx_I (fun _ _ h => of_decide_eq_true h) fun _ _ _ => .int _
theorem ox_lt : OpX K (rI0 fun i j => .bl (decide (i < j))) gLt := opx_I0 fun _ _ _ => .bl _
theorem ox_le : OpX K (rI0 fun i j => .bl (decide (i ≤ j))) gLe := opx_I0 fun _ _ _ => .bl _
theorem ox_gt : OpX K (rI0 fun i j => .bl (decide (j < i))) gGt := opx_I0 fun _ _ _ => .bl _
theorem ox_ge : OpX K (rI0 fun i j => .bl (decide (j ≤ i))) gGe := opx_I0 fun _ _ _ => .bl _
end
end PD
set_option Elab.async false
set_option linter.all false
set_option maxRecDepth 100000
set_option maxHeartbeats 4000000
namespace PD
open PySem PySem.Spec PyProof.Rows L2

inductive Fl where
  | nx
  | rt (o : OV)
  | bk
  | ct
abbrev SM := SS → Option (Fl × SS)
/-- what is wanted behind a statement that ends so -/
def Post (K : Frg) (n : Ent) (F : Hp) (D : Ends) : Fl → SS → Prop
  | .nx, S' => ∀ F' H' σ' own', Same F F' → St K n F' H' σ' S' own' → D.nx σ' H'
  | .bk, S' => ∀ F' H' σ' own', Same F F' → St K n F' H' σ' S' own' → D.bk σ' H'
  | .ct, S' => ∀ F' H' σ' own', Same F F' → St K n F' H' σ' S' own' → D.ct σ' H'
  | .rt o, S' => ∀ F' H' σ' own' v as, Same F F' → St K n F' H' σ' S' own' → Tmp K n F' H' own' as v o → D.rt v H'
def tS (K : Frg) (g : SM) : TS := fun D σ H => ∃ n F S own fl S', St K n F H σ S own ∧ g S = some (fl, S') ∧ Post K n F D fl S'
structure DS (X : Cx) (s : Stmt) (g : SM) : Prop where
  ps : PS X s (tS X.K g)
structure DSs (X : Cx) (s : List Stmt) (g : SM) : Prop where
  ps : PSs X s (tS X.K g)
theorem Post.mono {K : Frg} {n : Ent} {F F1 : Hp} {D : Ends} (e : Same F F1) : ∀ {fl : Fl} {S : SS}, Post K n F D fl S → Post K n F1 D fl S
  | .nx, _, h => fun F' H' σ' own' e' st => h F' H' σ' own' (e.trans e') st
  | .bk, _, h => fun F' H' σ' own' e' st => h F' H' σ' own' (e.trans e') st
  | .ct, _, h => fun F' H' σ' own' e' st => h F' H' σ' own' (e.trans e') st
  | .rt _, _, h => fun F' H' σ' own' v as e' st t => h F' H' σ' own' v as (e.trans e') st t

section
variable {X : Cx} {p pa pb : Bool} {s : Stmt} {ss : List Stmt} {e c : Expr} {f fa fb : EV} {ft : EB} {g g1 g2 : SM} {pos : Pos} {K : Frg}
def gNx : SM := fun S => some (.nx, S)
def gSeq (g1 g2 : SM) : SM := fun S => match g1 S with
  | some (.nx, S1) => g2 S1
  | r => r
theorem s_nil : DSs X [] gNx := ⟨pss_nil.imp fun D σ H ⟨n, F, S, own, fl, S', st, hg, q⟩ => by
  cases hg
  exact q F H σ own (Same.refl F) st⟩
theorem s_cons (h1 : DS X s g1) (h2 : DSs X ss g2) : DSs X (s :: ss) (gSeq g1 g2) := ⟨(pss_cons h1.ps h2.ps).imp fun D σ H ⟨n, F, S, own, fl, S', st, hg, q⟩ => by
  unfold gSeq at hg
  split at hg
  · rename_i S1 h
    exact ⟨n, F, S, own, .nx, S1, st, h, fun F1 H1 σ1 own1 e1 st1 => ⟨n, F1, S1, own1, fl, S', st1, hg, q.mono e1⟩⟩
  · rename_i h
    refine ⟨n, F, S, own, fl, S', st, hg, ?_⟩
    cases fl with
    | nx => exact absurd hg (h S')
    | bk => exact q
    | ct => exact q
    | rt o => exact q⟩
theorem s_one (h : DS X s g) : DSs X [s] g := ⟨pss_one h.ps⟩
def gBk : SM := fun S => some (.bk, S)
def gCt : SM := fun S => some (.ct, S)
theorem s_pass : DS X (.Pass pos) gNx := ⟨ps_pass.imp fun D σ H ⟨n, F, S, own, fl, S', st, hg, q⟩ => by
  cases hg
  exact q F H σ own (Same.refl F) st⟩
theorem s_break : DS X (.Break pos) gBk := ⟨ps_break.imp fun D σ H ⟨n, F, S, own, fl, S', st, hg, q⟩ => by
  cases hg
  exact q F H σ own (Same.refl F) st⟩
theorem s_continue : DS X (.Continue pos) gCt := ⟨ps_continue.imp fun D σ H ⟨n, F, S, own, fl, S', st, hg, q⟩ => by
  cases hg
  exact q F H σ own (Same.refl F) st⟩
theorem s_doc {x j pos'} : DS X (.Expr (.Constant (.str x) j pos) pos') gNx := ⟨ps_doc.imp fun D σ H ⟨n, F, S, own, fl, S', st, hg, q⟩ => by
  cases hg
  exact q F H σ own (Same.refl F) st⟩
/-- code that is never reached -/
def gNo : SM := fun _ => none
theorem s_never : DS X s gNo := ⟨ps_never.imp fun D σ H ⟨n, F, S, own, fl, S', st, hg, q⟩ => by cases hg⟩
theorem ss_never : DSs X ss gNo := ⟨pss_never.imp fun D σ H ⟨n, F, S, own, fl, S', st, hg, q⟩ => by cases hg⟩
/-- an expression whose value is dropped -/
def gDrop (f : EV) : SM := fun S => match f S with
  | some (_, S') => some (.nx, S')
  | none => none
theorem s_expr (he : DX X p e f) (hs : swapsWith e none pos.line X.env = pure false := by rfl) : DS X (.Expr e pos) (gDrop f) := ⟨(ps_expr he.pe hs).imp fun D σ H ⟨n, F, S, own, fl, S', st, hg, q⟩ => by
  unfold gDrop at hg
  split at hg
  · rename_i o S1 h
    cases hg
    exact ⟨n, F, S, own, o, _, st, h, fun F' H' own' v as e st' r pu => q F' H' σ own' e st'⟩
  · cases hg⟩
def gRet (f : EV) : SM := fun S => match f S with
  | some (o, S') => some (.rt o, S')
  | none => none
theorem s_ret (he : DO X p e f) : DS X (.Return (some e) pos) (gRet f) := ⟨(ps_ret he.pe).imp fun D σ H ⟨n, F, S, own, fl, S', st, hg, q⟩ => by
  unfold gRet at hg
  split at hg
  · rename_i o S1 h
    cases hg
    exact ⟨n, F, S, own, o, _, st, h, fun F' H' own' v as e st' t pu => q F' H' σ own' v as e st' t⟩
  · cases hg⟩
/-- a name that is given back as it stands -/
def gRetV (i : Nat) : SM := fun S => match S[i]? with
  | some (.v o) => some (.rt o, S.set i .un)
  | _ => none
theorem St.taken {n : Ent} {F H : Hp} {σ : L2.St} {S : SS} {own : Nat → List Addr} {i : Nat} {o : OV} (s : St K n F H σ S own) (h : S[i]? = some (.v o)) :
    ∃ v, σ[i]? = some (some v) ∧ St K n F H σ (S.set i .un) (fun j => if j = i then [] else own j) ∧ Tmp K n F H (fun j => if j = i then [] else own j) (own i) v o := by
  obtain ⟨v, h1, h2⟩ := s.slot i o h
  have s0 := s.drop (i := i) (some v)
  have hi : i < σ.length := (List.getElem?_eq_some_iff.mp h1).1
  have hσ : σ.set i (some v) = σ := by
    apply List.ext_getElem?
    intro j
    by_cases z : j = i
    · subst z; rw [List.getElem?_set_self hi, h1]
    · rw [List.getElem?_set_ne (Ne.symm z)]
  rw [hσ] at s0
  exact ⟨v, h1, s0, h2, s.nod i, fun a ha => ⟨(s.out i a ha).1, (s.out i a ha).2, fun j => by
    show a ∉ if j = i then [] else own j
    split
    · exact fun q => nomatch q
    · rename_i z; exact fun q => s.dis j i z a q ha⟩⟩
theorem s_retV (i : Nat) {x : Str} {pos' : Pos} (h : PE X (.Name x pos') (tVar i)) : DS X (.Return (some (.Name x pos')) pos) (gRetV i) := ⟨(ps_ret h).imp fun D σ H ⟨n, F, S, own, fl, S', st, hg, q⟩ => by
  unfold gRetV at hg
  split at hg
  · rename_i o h
    cases hg
    obtain ⟨v, h1, s2, t⟩ := st.taken h
    exact ⟨v, h1, q F H σ _ v _ (Same.refl F) s2 t⟩
  · cases hg⟩
def gRetN : SM := fun S => some (.rt (.fz .none), S)
theorem s_retN : DS X (.Return none pos) gRetN := ⟨ps_retN.imp fun D σ H ⟨n, F, S, own, fl, S', st, hg, q⟩ => by
  cases hg
  exact q F H σ own .non [] (Same.refl F) st (Tmp.fz .non)⟩
def gIf (ft : EB) (g1 g2 : SM) : SM := fun S => match ft S with
  | some (true, S1) => g1 S1
  | some (false, S1) => g2 S1
  | none => none
theorem s_if {a b : List Stmt} (hc : DT X p c ft) (ha : DSs X a g1) (hb : DSs X b g2) : DS X (.If c a b pos) (gIf ft g1 g2) := ⟨(ps_if hc.pt ha.ps hb.ps).imp fun D σ H ⟨n, F, S, own, fl, S', st, hg, q⟩ => by
  unfold gIf at hg
  split at hg
  · rename_i S1 h
    exact ⟨n, F, S, own, true, S1, st, h, fun F' H' own' e st' pu => by
      show if true = true then _ else _
      rw [if_pos rfl]
      exact ⟨n, F', S1, own', fl, S', st', hg, q.mono e⟩⟩
  · rename_i S1 h
    exact ⟨n, F, S, own, false, S1, st, h, fun F' H' own' e st' pu => by
      show if false = true then _ else _
      rw [if_neg Bool.false_ne_true]
      exact ⟨n, F', S1, own', fl, S', st', hg, q.mono e⟩⟩
  · cases hg⟩

/-! ### stores to names -/
def putS (i : Nat) (o : OV) (S : SS) : Option SS := match S[i]? with
  | some (.io _) => none
  | some _ => some (S.set i (.v o))
  | none => none
theorem putS_ok {i : Nat} {o : OV} {S S' : SS} (h : putS i o S = some S') : i < S.length ∧ (∀ u, S[i]? ≠ some (.io u)) ∧ S' = S.set i (.v o) := by
  unfold putS at h
  split at h
  · cases h
  · rename_i u hn e
    cases h
    exact ⟨(List.getElem?_eq_some_iff.mp e).1, fun u z => hn u (by rw [e] at z; exact Option.some.inj z), rfl⟩
  · cases h
theorem St.putS {n : Ent} {F H : Hp} {σ : L2.St} {S S' : SS} {own : Nat → List Addr} {i : Nat} {as : List Addr} {v : V} {x : OV} (s : St K n F H σ S own) (t : Tmp K n F H own as v x) (h : PD.putS i x S = some S') :
    St K n F H (σ.set i (some v)) S' (fun j => if j = i then as else own j) := by
  obtain ⟨h1, h2, rfl⟩ := putS_ok h
  exact s.put t (by rw [← s.len]; exact h1) h2
def gSet (i : Nat) (f : EV) : SM := fun S => match f S with
  | some (o, S1) => (match putS i o S1 with
    | some S2 => some (.nx, S2)
    | none => none)
  | none => none
theorem s_set {i : Nat} {x : Str} {pos' : Pos} (hN : X.N.Nodup) (hi : X.N[i]? = some x) (hx : Loc X.env.scope x) (he : DO X p e f) (hs : swapsWith e (some (.Name x pos')) pos.line X.env = pure false := by rfl)
    (hf : X.fn x = true ∨ X.env.scope.names.lookup x = some .local := by first | exact .inl rfl | exact .inr rfl | assumption) : DS X (.Assign [.Name x pos'] e pos) (gSet i f) := ⟨(ps_set hN hi hx he.pe hs hf).imp fun D σ H ⟨n, F, S, own, fl, S', st, hg, q⟩ => by
  unfold gSet at hg
  split at hg
  · rename_i o S1 h
    split at hg
    · rename_i S2 h2
      cases hg
      exact ⟨n, F, S, own, o, S1, st, h, fun F' H' own' v as e st' t pu => q F' H' _ _ e (st'.putS t h2)⟩
    · cases hg
  · cases hg⟩
/-- x = y, y isn't used any more as an own one -/
def gMove (i j : Nat) : SM := fun S => match S[j]? with
  | some (.v o) => (match putS i o (S.set j .un) with
    | some S2 => some (.nx, S2)
    | none => none)
  | _ => none
theorem s_move (j : Nat) {i : Nat} {x y : Str} {pos' pos2 : Pos} (hN : X.N.Nodup) (hi : X.N[i]? = some x) (hx : Loc X.env.scope x) (h : PE X (.Name y pos2) (tVar j)) (hs : swapsWith (.Name y pos2) (some (.Name x pos')) pos.line X.env = pure false := by rfl)
    (hf : X.fn x = true ∨ X.env.scope.names.lookup x = some .local := by first | exact .inl rfl | exact .inr rfl | assumption) : DS X (.Assign [.Name x pos'] (.Name y pos2) pos) (gMove i j) := ⟨(ps_set hN hi hx h hs hf).imp fun D σ H ⟨n, F, S, own, fl, S', st, hg, q⟩ => by
  unfold gMove at hg
  split at hg
  · rename_i o h
    split at hg
    · rename_i S2 h2
      cases hg
      obtain ⟨v, h1, s2, t⟩ := st.taken h
      exact ⟨v, h1, q F H _ _ (Same.refl F) (s2.putS t h2)⟩
    · cases hg
  · cases hg⟩

/-! ### targets of data -/
abbrev GV := PyData → SS → Option SS
/-- the slots out of is stand as they were -/
def Agr (is : List Nat) (σ σ' : L2.St) : Prop := σ'.length = σ.length ∧ ∀ j, j ∉ is → σ'[j]? = σ[j]?
def tG (K : Frg) (is : List Nat) (g : GV) : TG := fun v σ H Q => ∃ n F S own d S', St K n F H σ S own ∧ Rp K F v d ∧ g d S = some S' ∧ ∀ F' H' σ' own', Same F F' → St K n F' H' σ' S' own' → Agr is σ σ' → Q σ' H'
/-- is: the slots that the target stores to -/
structure DG (X : Cx) (is : List Nat) (t : Expr) (g : GV) : Prop where
  pg : PG X t (tG X.K is g)
abbrev GVs := List PyData → SS → Option SS
def tGs (K : Frg) (is : List Nat) (g : GVs) : TGs := fun vs σ H Q => ∃ n F S own ds S', St K n F H σ S own ∧ RpAll K F vs ds ∧ g ds S = some S' ∧ ∀ F' H' σ' own', Same F F' → St K n F' H' σ' S' own' → Agr is σ σ' → Q σ' H'
structure DGs (X : Cx) (is : List Nat) (t : List Expr) (g : GVs) : Prop where
  pg : PGs X t (tGs X.K is g)
theorem _root_.L2.PG.imp {X : Cx} {e : Expr} {t t' : TG} (h : PG X e t) (i : ∀ v σ H Q, t' v σ H Q → t v σ H Q) : PG X e t' := ⟨fun pins s σ H v u Q I r q => h.run pins s σ H v u Q I r (i v σ H Q q)⟩
theorem _root_.L2.PGs.imp {X : Cx} {e : List Expr} {t t' : TGs} (h : PGs X e t) (i : ∀ v σ H Q, t' v σ H Q → t v σ H Q) : PGs X e t' := ⟨fun pins s σ H v u Q I r q => h.run pins s σ H v u Q I r (i v σ H Q q)⟩
def tgN (i : Nat) : GV := fun d S => putS i (.fz d) S
theorem g_name (i : Nat) {x : Str} (hN : X.N.Nodup) (hi : X.N[i]? = some x) (hx : Loc X.env.scope x) (hf : X.fn x = true ∨ X.env.scope.names.lookup x = some .local := by first | exact .inl rfl | exact .inr rfl | assumption) : DG X [i] (.Name x pos) (tgN i) :=
  ⟨(pg_name hN hi hx hf).imp fun v σ H Q ⟨n, F, S, own, d, S', st, r, hg, q⟩ => q F H _ _ (Same.refl F) (st.putS (Tmp.fz r) hg) ⟨List.length_set, fun j hj => by
    rw [List.getElem?_set_ne]
    exact fun z => hj (by simp [z])⟩⟩
def tgNil : GVs := fun ds S => match ds with
  | [] => some S
  | _ => none
def tgCons (g : GV) (gs : GVs) : GVs := fun ds S => match ds with
  | d :: ds => (match g d S with
    | some S1 => gs ds S1
    | none => none)
  | [] => none
variable {is js : List Nat}
theorem gs_nil : DGs X [] [] tgNil := ⟨pgs_nil.imp fun v σ H Q ⟨n, F, S, own, ds, S', st, r, hg, q⟩ => by
  unfold tgNil at hg
  split at hg
  · cases hg
    cases r
    exact ⟨rfl, q F H σ own (Same.refl F) st ⟨rfl, fun _ _ => rfl⟩⟩
  · cases hg⟩
theorem gs_cons {es : List Expr} {t : GV} {u : GVs} (h1 : DG X is e t) (h2 : DGs X js es u) (hs : (assignEach (e :: es) X.env).map (·.2) = assign e X.env :: (assignEach es X.env).map (·.2) := by rfl) : DGs X (is ++ js) (e :: es) (tgCons t u) :=
  ⟨(pgs_cons h1.pg h2.pg hs).imp fun vs σ H Q ⟨n, F, S, own, ds, S', st, r, hg, q⟩ => by
    unfold tgCons at hg
    split at hg
    · rename_i d ds
      split at hg
      · rename_i S1 h
        cases r with
        | cons r rr =>
          exact ⟨_, _, rfl, n, F, S, own, d, S1, st, r, h, fun F' H' σ' own' e st' k1 => ⟨n, F', S1, own', ds, S', st', rr.mono e, hg, fun F2 H2 σ2 own2 e2 st2 k2 => q F2 H2 σ2 own2 (e.trans e2) st2 ⟨k2.1.trans k1.1, fun j hj =>
            (k2.2 j fun z => hj (List.mem_append_right _ z)).trans (k1.2 j fun z => hj (List.mem_append_left _ z))⟩⟩⟩
      · cases hg
    · cases hg⟩
def tgT (k : Nat) (gs : GVs) : GV := fun d S => match d with
  | .tuple ds => if ds.length = k then gs ds S else none
  | _ => none
theorem g_tup {es : List Expr} {j k : Nat} {gs : GVs} (hc : X.calm = true) (h : DGs X is es gs) (hn : (assignEach es X.env).length = k := by rfl) (hst : (assignEach es X.env).findIdx? (·.1) = none := by rfl) : DG X is (.Tuple es j pos) (tgT k gs) :=
  ⟨(pg_tup hc h.pg hn hst).imp fun v σ H Q ⟨n, F, S, own, d, S', st, r, hg, q⟩ => by
    unfold tgT at hg
    split at hg
    · rename_i ds
      split at hg
      · rename_i hk
        cases r with
        | tup hs rr => exact ⟨_, _, rfl, Same.sqT st.fh (.inl (.inl hs)), rr.length.trans hk, n, F, S, own, ds, S', st, rr, hg, q⟩
      · cases hg
    · cases hg⟩
/-- target = value, by data -/
def gAsg (f : EV) (g : GV) : SM := fun S => match f S with
  | some (.fz d, S1) => (match g d S1 with
    | some S2 => some (.nx, S2)
    | none => none)
  | _ => none
theorem s_asg {tg : Expr} {gv : GV} (he : DX X p e f) (hg : DG X is tg gv) (hs : swapsWithSole [tg] e pos.line X.env = pure false := by rfl) (hw : swappedStores [tg] e X.env = pure none := by rfl)
    (h1 : (assignEach [tg] X.env).map (·.2) = [assign tg X.env] := by rfl) : DS X (.Assign [tg] e pos) (gAsg f gv) := ⟨(ps_asg he.pe hg.pg hs hw h1).imp fun D σ H ⟨n, F, S, own, fl, S', st, hh, q⟩ => by
  unfold gAsg at hh
  split at hh
  · rename_i d S1 h
    split at hh
    · rename_i S2 h2
      cases hh
      exact ⟨n, F, S, own, _, S1, st, h, fun F' H' own' v as e st' r pu => by
        cases r with
        | fz r => exact ⟨n, F', S1, own', d, S', st', r, h2, fun F2 H2 σ2 own2 e2 st2 _ => q F2 H2 σ2 own2 (e.trans e2) st2⟩⟩
    · cases hh
  · cases hh⟩
/-- a, b = x, y with plain names -/
def gPar (i j : Nat) (fa fb : EV) : SM := fun S => match fa S with
  | some (x, S1) => (match fb S1 with
    | some (y, S2) => (match putS i x S2 with
      | some S3 => (match putS j y S3 with
        | some S4 => some (.nx, S4)
        | none => none)
      | none => none)
    | none => none)
  | none => none
theorem s_par {i j : Nat} {x y : Str} {a b : Expr} {px py pt : Pos} {kt k2 pt2} (hc : X.calm = true) (hN : X.N.Nodup) (hi : X.N[i]? = some x) (hj : X.N[j]? = some y) (hij : i ≠ j)
    (hx : X.env.scope.names.lookup x = some .local) (hy : X.env.scope.names.lookup y = some .local) (ha : DO X pa a fa) (hb : DO X pb b fb)
    (hw : swappedStores [.Tuple [.Name x px, .Name y py] kt pt] (.Tuple [a, b] k2 pt2) X.env = pure (some [x, y]) := by rfl)
    (hs : swapsWithSole [.Tuple [.Name x px, .Name y py] kt pt] (.Tuple [a, b] k2 pt2) pos.line X.env = pure false := by rfl)
    (hs1 : starEach [a, b] X.env = (false, eval a X.env) :: starEach [b] X.env := by rfl) (hs2 : starEach [b] X.env = (false, eval b X.env) :: starEach [] X.env := by rfl) :
    DS X (.Assign [.Tuple [.Name x px, .Name y py] kt pt] (.Tuple [a, b] k2 pt2) pos) (gPar i j fa fb) :=
  ⟨(ps_par hc hN hi hj hij hx hy (pa_cons ha.pe (pa_cons hb.pe pa_nil hs2) hs1) hw hs).imp fun D σ H ⟨n, F, S, own, fl, S', st, hh, q⟩ => by
    unfold gPar at hh
    split at hh
    · rename_i o1 S1 h1
      split at hh
      · rename_i o2 S2 h2
        split at hh
        · rename_i S3 h3
          split at hh
          · rename_i S4 h4
            cases hh
            refine ⟨n, F, S, own, o1, S1, st, h1, fun F1 H1 own1 v as e1 st1 t1 pu1 => ?_⟩
            refine ⟨n.with H1 as, F1, S1, own1, o2, S2, t1.aside st1, h2, fun F2 H2 own2 w bs e2 st2 t2 pu2 => ?_⟩
            obtain ⟨st3, t3⟩ := t1.back st1 e2 st2
            refine ⟨v, w, rfl, ?_⟩
            have st4 := st3.putS t3 h3
            have hR : ∀ a, (n.with H1 as).R a = none → n.R a = none ∧ a ∉ as := fun a z => by
              by_cases m : a ∈ as
              · obtain ⟨o, q2, _⟩ := t1.ro.dom a m
                rw [show (n.with H1 as).R a = H1 a from adds_in m, q2] at z; cases z
              · exact ⟨by rw [show (n.with H1 as).R a = n.R a from adds_out m] at z; exact z, m⟩
            have t4 : Tmp X.K n F2 H2 (fun k => if k = i then as else own2 k) bs w o2 := ⟨t2.ro, t2.nod, fun a m => ⟨(t2.out a m).1, (hR a (t2.out a m).2.1).1, fun k => by
              show a ∉ if k = i then as else own2 k
              split
              · exact (hR a (t2.out a m).2.1).2
              · exact (t2.out a m).2.2 k⟩⟩
            have st5 := st4.putS t4 h4
            exact q F2 H2 _ _ (e1.trans e2) st5
          · cases hh
        · cases hh
      · cases hh
    · cases hh⟩

/-! ### defs -/
def entry : OV → SV
  | .fz d => .v (.fz d)
  | o => .io o
def outs : Nat → List OV → SS → List OV
  | _, [], _ => []
  | i, .fz d :: r, S => .fz d :: outs (i + 1) r S
  | i, o :: r, S => (match S[i]? with
    | some (.io u) => u
    | _ => o) :: outs (i + 1) r S
abbrev Mir := List OV → Option (OV × List OV)
def ioOk : Nat → List OV → SS → Bool
  | _, [], _ => true
  | i, .fz _ :: r, S => ioOk (i + 1) r S
  | i, _ :: r, S => (match S[i]? with
    | some (.io u) => !u.isFz
    | _ => false) && ioOk (i + 1) r S
def fnM (na nl : Nat) (body : SM) : Mir := fun avs => if avs.length = na then (match body (avs.map entry ++ List.replicate (nl - na) .un) with
  | some (.rt o, S) => if ioOk 0 avs S then some (o, outs 0 avs S) else none
  | some (.nx, S) => if ioOk 0 avs S then some (.fz .none, outs 0 avs S) else none
  | _ => none) else none
/-- a def's promise: it gives what m gives -/
def spF (K : Frg) (m : Mir) : Sp := fun vs H Q _ => ∃ n F avs own r avs', St K n F H (vs.map some) (avs.map entry) own ∧ (∀ i v, vs[i]? = some v → n.ref i = v) ∧ m avs = some (r, avs') ∧
  ∀ F' H' own' v as, Same F F' → St K n F' H' (vs.map some) (avs'.map entry) own' → Tmp K n F' H' own' as v r → Q v H'
/-- what is left of the arguments behind a body -/
theorem outs_length : ∀ (avs : List OV) (i : Nat) (S : SS), (outs i avs S).length = avs.length
  | [], _, _ => rfl
  | .fz _ :: r, i, S => by simp [outs, outs_length r]
  | .ol _ :: r, i, S => by simp [outs, outs_length r]
  | .ok _ _ :: r, i, S => by simp [outs, outs_length r]
  | .ot _ _ :: r, i, S => by simp [outs, outs_length r]
theorem outs_get : ∀ (avs : List OV) (i j : Nat) (S : SS), (outs i avs S)[j]? = (avs[j]?).map fun o => match o with
    | .fz d => .fz d
    | o => match S[i + j]? with
      | some (.io u) => u
      | _ => o
  | [], _, _, _ => by simp [outs]
  | .fz _ :: r, i, 0, S => by simp [outs]
  | .ol _ :: r, i, 0, S => by simp [outs]
  | .ok _ _ :: r, i, 0, S => by simp [outs]
  | .ot _ _ :: r, i, 0, S => by simp [outs]
  | .fz _ :: r, i, j + 1, S => by simp [outs, outs_get r, Nat.add_assoc, Nat.add_comm 1 j]
  | .ol _ :: r, i, j + 1, S => by simp [outs, outs_get r, Nat.add_assoc, Nat.add_comm 1 j]
  | .ok _ _ :: r, i, j + 1, S => by simp [outs, outs_get r, Nat.add_assoc, Nat.add_comm 1 j]
  | .ot _ _ :: r, i, j + 1, S => by simp [outs, outs_get r, Nat.add_assoc, Nat.add_comm 1 j]
/-- io slots stay io slots: asked of the state at a def's end -/
theorem RO.rp {F H : Hp} {as : List Addr} {v : V} {d : PyData} (h : RO K F H as v (.fz d)) : Rp K F v d := by cases h with | fz h => exact h
def keepsIo (avs : List OV) (S : SS) : Prop := ∀ (i : Nat) (o : OV), avs[i]? = some o → o.isFz = false → ∃ u, S[i]? = some (.io u) ∧ u.isFz = false
theorem ioOk_get : ∀ {avs : List OV} {i : Nat} {S : SS}, ioOk i avs S = true → ∀ (j : Nat) (o : OV), avs[j]? = some o → o.isFz = false → ∃ u, S[i + j]? = some (.io u) ∧ u.isFz = false
  | [], _, _, _, _, _, e, _ => by simp at e
  | x :: r, i, S, h, 0, o, e, hf => by
    have : x = o := by simpa using e
    subst this
    cases x <;> first | (simp [OV.isFz] at hf; done) | (
      simp only [ioOk, Bool.and_eq_true] at h
      obtain ⟨h, _⟩ := h
      split at h
      · rename_i u hu
        exact ⟨u, by simpa using hu, by simpa using h⟩
      · cases h)
  | x :: r, i, S, h, j + 1, o, e, hf => by
    have h' : ioOk (i + 1) r S = true := by
      cases x <;> first | (simpa [ioOk] using h; done) | (simp only [ioOk, Bool.and_eq_true] at h; exact h.2)
    obtain ⟨u, h1, h2⟩ := ioOk_get h' j o (by simpa using e) hf
    exact ⟨u, by rw [← h1]; congr 1; omega, h2⟩
theorem ioOk_keeps {avs : List OV} {S : SS} (h : ioOk 0 avs S = true) : keepsIo avs S := fun i o e hf => by
  obtain ⟨u, h1, h2⟩ := ioOk_get h i o e hf
  exact ⟨u, by rw [Nat.zero_add] at h1; exact h1, h2⟩
theorem entry_io {o : OV} (h : o.isFz = false) : entry o = .io o := by cases o <;> first | (simp [OV.isFz] at h; done) | rfl
/-- the state of the arguments, out of the state at a def's end -/
theorem St.args {n : Ent} {F F' H H' : Hp} {vs : List V} {avs : List OV} {own0 own : Nat → List Addr} {σ : L2.St} {S : SS} (s0 : St K n F H (vs.map some) (avs.map entry) own0) (hr : ∀ i v, vs[i]? = some v → n.ref i = v) (e : Same F F')
    (s : St K n F' H' σ S own) (hk : keepsIo avs S) {as : List Addr} {v : V} {r : OV} (t : Tmp K n F' H' own as v r) :
    ∃ own', St K n F' H' (vs.map some) ((outs 0 avs S).map entry) own' ∧ Tmp K n F' H' own' as v r := by
  have hl : avs.length = vs.length := by simpa using s0.len
  let own' : Nat → List Addr := fun i => match avs[i]? with
    | some o => if o.isFz then [] else own i
    | none => []
  have hsub : ∀ i a, a ∈ own' i → a ∈ own i := fun i a h => by
    simp only [own'] at h
    split at h
    · split at h
      · cases h
      · exact h
    · cases h
  refine ⟨own', ⟨s.fh, s.rh, s.f0, s.good, by simp [outs_length, hl], fun i o q => ?_, fun i o q => ?_, fun i h1 h2 => ?_, fun i => ?_, fun i j hij a h q => s.dis i j hij a (hsub i a h) (hsub j a q), fun i a h => s.out i a (hsub i a h)⟩, ⟨t.ro, t.nod, fun a m => ⟨(t.out a m).1, (t.out a m).2.1, fun i h => (t.out a m).2.2 i (hsub i a h)⟩⟩⟩
  · rw [List.getElem?_map, outs_get] at q
    cases h : avs[i]? with
    | none => rw [h] at q; cases q
    | some x =>
      have hi : i < vs.length := by rw [← hl]; exact (List.getElem?_eq_some_iff.mp h).1
      cases x with
      | fz d =>
        rw [h] at q
        simp only [Option.map_some, entry, Option.some.injEq, SV.v.injEq] at q
        subst q
        obtain ⟨v, h1, h2⟩ := s0.slot i (.fz d) (by rw [List.getElem?_map, h]; rfl)
        refine ⟨v, h1, ?_⟩
        have : own' i = [] := by simp only [own', h]; rfl
        rw [this]
        exact .fz (h2.rp.mono e)
      | ol xs =>
        obtain ⟨u, hu, hf⟩ := hk i _ h rfl
        rw [h] at q
        simp only [Option.map_some, Nat.zero_add, hu, entry_io hf, Option.some.injEq] at q
        cases q
      | ok ks xs =>
        obtain ⟨u, hu, hf⟩ := hk i _ h rfl
        rw [h] at q
        simp only [Option.map_some, Nat.zero_add, hu, entry_io hf, Option.some.injEq] at q
        cases q
      | ot ks xs =>
        obtain ⟨u, hu, hf⟩ := hk i _ h rfl
        rw [h] at q
        simp only [Option.map_some, Nat.zero_add, hu, entry_io hf, Option.some.injEq] at q
        cases q
  · rw [List.getElem?_map, outs_get] at q
    cases h : avs[i]? with
    | none => rw [h] at q; cases q
    | some x =>
      have hi : i < vs.length := by rw [← hl]; exact (List.getElem?_eq_some_iff.mp h).1
      have go : ∀ {x : OV}, avs[i]? = some x → x.isFz = false → (∀ u, S[i]? = some (.io u) → u.isFz = false → some (entry u) = some (SV.io o)) → (vs.map some)[i]? = some (some (n.ref i)) ∧ RO K F' H' (own' i) (n.ref i) o := fun {x} h hx q => by
        obtain ⟨u, hu, hf⟩ := hk i _ h hx
        have := q u hu hf
        rw [entry_io hf] at this
        cases this
        obtain ⟨h1, h2⟩ := s.slio i _ hu
        refine ⟨by rw [List.getElem?_map, List.getElem?_eq_getElem hi, hr i vs[i] (List.getElem?_eq_getElem hi)]; rfl, ?_⟩
        have : own' i = own i := by simp only [own', h, hx]; rfl
        rw [this]
        exact h2
      cases x with
      | fz d => rw [h] at q; simp [entry] at q
      | ol xs => exact go h rfl fun u hu hf => by rw [h] at q; simpa only [Option.map_some, Nat.zero_add, hu] using q
      | ok ks xs => exact go h rfl fun u hu hf => by rw [h] at q; simpa only [Option.map_some, Nat.zero_add, hu] using q
      | ot ks xs => exact go h rfl fun u hu hf => by rw [h] at q; simpa only [Option.map_some, Nat.zero_add, hu] using q
  · simp only [own']
    cases h : avs[i]? with
    | none => rfl
    | some x =>
      simp only
      by_cases hx : x.isFz = true
      · rw [if_pos hx]
      · have hx : x.isFz = false := by simpa using hx
        obtain ⟨u, hu, hf⟩ := hk i _ h hx
        refine absurd ?_ (h2 u)
        rw [List.getElem?_map, outs_get, h]
        cases x <;> first | (simp [OV.isFz] at hx; done) | (simp only [Option.map_some, Nat.zero_add, hu, entry_io hf])
  · simp only [own']
    split
    · split
      · exact List.nodup_nil
      · exact s.nod i
    · exact List.nodup_nil
/-- what a def owes where no repr is under way: FnOk's run, for such arounds alone -/
structure FnG (P : Program) (w : World) (K : Frg) (mg : Str → Option Value) (base : Heap) (k : Nat) (f : Addr) (fd : FuncData) (ps : List Str) (sp : Sp) : Prop where
  len : ∀ vs H Q E, sp vs H Q E → vs.length = ps.length
  run : ∀ (A : Around) (outer : List Env) (s : Shared) (H : Hp) (args : Args) (us : List Value) (vs : List V) (Q : VK) (E : XK), A.guards = some [] → Room k A → Env0 P w K mg base A outer s H →
    BindsTo s fd args (ps.zip us) → Vals vs us → sp vs H Q E → codeAny (model P w) A (.call (.ref f) args) (CR CX0 outer P w H s Q E) s
section
variable {P : Program} {w : World} {mg : Str → Option Value} {base : Heap}
/-- a def of the text by its body -/
theorem Gfun.ok {x qual : Str} {st : Stmt} {f : Addr} {fd : FuncData} {N ps : List Str} {k : Nat} {sp : Sp} (F : Fun K x qual st f fd) (Sc : FnScope N ps (defScope st)) (hlen : ∀ vs H Q E, sp vs H Q E → vs.length = ps.length)
    (hb : ∀ (cdv : Value) (A : Around) (outer : List Env) (s : Shared) (H : Hp) (vs : List V) (Q : VK) (E : XK), A.guards = some [] → Room k (A.deeper (envOfC qual (defScope st) s.heap.objs.size f cdv)) → sp vs H Q E →
      ∃ t, PSs (cxOf CX0 P w K mg base N qual (defScope st) f cdv A outer s H E).nox (defBody st) t ∧ t { nx := fun _ H' => Q .non H', rt := Q } (L2.start N vs) H) : FnG P w K mg base (k + 1) f fd ps sp := by
  obtain ⟨oc, od, kV, doc, pm, an, cdv, ct, osl, rfl, lk, hcd⟩ := F.ex
  refine ⟨hlen, fun A outer s H args us vs Q E hgd hr e0 hbi rv hsp => ?_⟩
  have kept : ∀ b o, base.get? b = some o → s.heap.get? b = some o := fun b o q => (e0.bs b o q).1
  have KX : K.In s.heap := e0.mod.kin.keeps kept
  have kinds : ∀ y ∈ ps.zip us, (defScope st).names.lookup y.1 = some .local ∨ ((defScope st).names.lookup y.1 = some .cell ∧ ((cellsFrom (s.heap.objs.size + 1) (defScope st).names []).lookup y.1).isSome = true) := by
    rintro ⟨nm, v⟩ hy
    exact (Sc.par nm (List.of_mem_zip hy).1).imp id fun q => ⟨q, PySem.W.cellsFrom_some _ _ _ (.inl q)⟩
  refine codeAny_call_function hr.depth (KX _ _ lk) rfl Sc.co Sc.gen rfl (PySem.W.codeRec_of KX hcd) (hbi _ _ _ _ (wpAny_newFunctionEnv_cells Sc.kind kinds fun env he s1 ic => ?_))
  subst he
  refine ⟨(e0.mod.nolimit.keeps kept).keeps ic.toInCall.keep, codeAny_func ?_⟩
  obtain ⟨t, ht, hq⟩ := hb cdv A outer s H vs Q E hgd (hr.deeper _) hsp
  have I := inv_start (CX := CX0) (E := E) Sc hr.hd e0 (hlen _ _ _ _ hsp) rv ic
  refine wpAny_mono (ht.nox.run [] s1 _ H _ I hq) (fun fl s' hs => ?_) fun _ _ hs => hs
  cases fl with
  | ret u =>
    obtain ⟨v, σ', H', J, r1, q1⟩ := hs
    exact ⟨v, H', J.os, J.bare, J.base, J.hok, r1, q1⟩
  | next =>
    obtain ⟨σ', H', J, q1⟩ := hs
    exact ⟨.non, H', J.os, J.bare, J.base, J.hok, rfl, q1⟩
  | brk => exact hs.choose_spec.choose_spec.2.elim
  | cont => exact hs.choose_spec.choose_spec.2.elim
theorem fn_ok {x qual : Str} {st : Stmt} {f : Addr} {fd : FuncData} {N ps : List Str} {k : Nat} {body : SM} (F : Fun K x qual st f fd) (Sc : FnScope N ps (defScope st)) (hps : ps.length ≤ N.length)
    (hb : ∀ (cdv : Value) (A : Around) (outer : List Env) (s : Shared) (H : Hp) (E : XK), A.guards = some [] → Room k (A.deeper (envOfC qual (defScope st) s.heap.objs.size f cdv)) →
      DSs (cxOf CX0 P w K mg base N qual (defScope st) f cdv A outer s H E).nox (defBody st) body) : FnG P w K mg base (k + 1) f fd ps (spF K (fnM ps.length N.length body)) := by
  refine Gfun.ok F Sc (fun vs H Q E h => ?_) fun cdv A outer s H vs Q E hgd hr h => ?_
  · obtain ⟨n, F, avs, own, r, avs', st, _, hm, _⟩ := h
    have hl : avs.length = vs.length := by simpa using st.len
    unfold fnM at hm
    split at hm
    · rename_i e; rw [← hl, e]
    · cases hm
  · obtain ⟨n, F, avs, own, r, avs', st, href, hm, q⟩ := h
    have hl : avs.length = vs.length := by simpa using st.len
    refine ⟨_, (hb cdv A outer s H E hgd hr).ps, ?_⟩
    unfold fnM at hm
    split at hm
    · rename_i hps'
      have hst : St K n F H (L2.start N vs) (avs.map entry ++ List.replicate (N.length - ps.length) .un) own := by
        unfold L2.start
        rw [← hl, hps']
        refine ⟨st.fh, st.rh, st.f0, st.good, by simp [hl], fun i o e => ?_, fun i o e => ?_, fun i h1 h2 => ?_, st.nod, st.dis, st.out⟩
        · by_cases hi : i < avs.length
          · rw [List.getElem?_append_left (by simpa using hi)] at e
            obtain ⟨v, z1, z2⟩ := st.slot i o e
            refine ⟨v, ?_, z2⟩
            rw [List.getElem?_append_left (by simpa [← hl] using hi)]
            exact z1
          · rw [List.getElem?_append_right (by simpa using hi)] at e
            rw [List.getElem?_replicate] at e
            split at e <;> cases e
        · by_cases hi : i < avs.length
          · rw [List.getElem?_append_left (by simpa using hi)] at e
            obtain ⟨z1, z2⟩ := st.slio i o e
            refine ⟨?_, z2⟩
            rw [List.getElem?_append_left (by simpa [← hl] using hi)]
            exact z1
          · rw [List.getElem?_append_right (by simpa using hi)] at e
            rw [List.getElem?_replicate] at e
            split at e <;> cases e
        · refine st.un i (fun o e => h1 o ?_) fun o e => h2 o ?_
          · have hi := (List.getElem?_eq_some_iff.mp e).1
            rw [List.getElem?_append_left hi]; exact e
          · have hi := (List.getElem?_eq_some_iff.mp e).1
            rw [List.getElem?_append_left hi]; exact e
      split at hm
      · rename_i o S2 hbody
        split at hm
        · rename_i hio
          cases hm
          refine ⟨n, F, _, own, .rt r, S2, hst, hbody, fun F' H' σ' own' v as e st' t => ?_⟩
          obtain ⟨own2, s3, t3⟩ := St.args st href e st' (ioOk_keeps hio) t
          exact q F' H' own2 v as e s3 t3
        · cases hm
      · rename_i S2 hbody
        split at hm
        · rename_i hio
          cases hm
          refine ⟨n, F, _, own, .nx, S2, hst, hbody, fun F' H' σ' own' e st' => ?_⟩
          obtain ⟨own2, s3, t3⟩ := St.args st href e st' (ioOk_keeps hio) (Tmp.fz (n := n) (own := own') .non)
          exact q F' H' own2 .non [] e s3 t3
        · cases hm
      · cases hm
    · cases hm
end
end
end PD
set_option Elab.async false
set_option linter.all false
set_option maxRecDepth 100000
set_option maxHeartbeats 4000000
namespace PD
open PySem PySem.Spec PyProof.Rows L2

/-- a def of the program stands there and keeps its promise -/
structure Fd (P : Program) (w : World) (K : Frg) (mg : Str → Option Value) (base : Heap) (k : Nat) (x : Str) (m : Mir) : Prop where
  ex : ∃ (f : Addr) (fd : FuncData) (ps : List Str), FnG P w K mg base k f fd ps (spF K m) ∧ mg x = some (.ref f) ∧ PySem.W.keepIn K (.ref f) = true ∧ Binds K fd ps []
section
variable {X : Cx} {p pa pb : Bool} {e : Expr} {es : List Expr} {fa : EV} {ga : EA} {pos : Pos} {K : Frg}
def gCallF (m : Mir) : List OV → Option OV := fun os => match allFz os with
  | some ds => (match m (ds.map OV.fz) with
    | some (r, _) => some r
    | none => none)
  | none => none
theorem St.frozenArgs {F H : Hp} {xs : List V} {ds : List PyData} (fh : Same F H) (r : RpAll K F xs ds) :
    St K ⟨H, F, fun i => xs.getD i .non⟩ F H (xs.map some) ((ds.map OV.fz).map entry) (fun _ => []) := by
  refine ⟨fh, Same.refl H, Same.refl F, fun a o q => .inr (.inr q), by simp [r.length], fun i o e => ?_, fun i o e => ?_, fun _ _ _ => rfl, fun _ => List.nodup_nil, fun _ _ _ _ h => (nomatch h), fun _ _ h => nomatch h⟩
  · rw [List.getElem?_map, List.getElem?_map] at e
    cases q : ds[i]? with
    | none => rw [q] at e; cases e
    | some d =>
      rw [q] at e
      simp only [Option.map_some, entry, Option.some.injEq, SV.v.injEq] at e
      subst e
      obtain ⟨v, h1, h2⟩ := r.get q
      exact ⟨v, by rw [List.getElem?_map, h1]; rfl, .fz h2⟩
  · rw [List.getElem?_map, List.getElem?_map] at e
    cases q : ds[i]? with
    | none => rw [q] at e; cases e
    | some d => rw [q] at e; simp [entry] at e
theorem callx_F {m : Mir} {E : XK} : CallX K (fun vs H Q => spF K m (vs ++ []) H Q E) (gCallF m) := by
  intro n F H σ S own xs os o Q st r hg he
  unfold gCallF at hg
  split at hg
  · rename_i ds h1
    split at hg
    · rename_i r1 avs' h2
      cases hg
      have := allFz_map h1
      subst this
      have rr := r.fzAll
      rw [List.append_nil]
      refine ⟨⟨H, F, fun i => xs.getD i .non⟩, F, ds.map OV.fz, fun _ => [], o, avs', St.frozenArgs st.fh rr, fun i v q => by (show xs.getD i .non = v); simp [q], h2, fun F' H' own' v as e st' t => ?_⟩
      have hn : ∀ a, H a = none → n.R a = none ∧ ∀ i, a ∉ own i := fun a q => by
        refine ⟨?_, fun i h => ?_⟩
        · cases w : n.R a with
          | none => rfl
          | some u => rw [st.rh a u w] at q; cases q
        · obtain ⟨o, w, _⟩ := st.dom h
          rw [q] at w; cases w
      refine he F' H' v as e st'.rh (st.grow e st'.fh st'.rh fun a o q => ?_) ⟨t.ro, t.nod, fun a z => ⟨(t.out a z).1, (hn a (t.out a z).2.1).1, (hn a (t.out a z).2.1).2⟩⟩
      rcases st'.good a o q with g | g | g
      · exact .inr (.inl g)
      · exact .inr (.inr g)
      · exact .inl g
    · cases hg
  · cases hg
/-- a call with own things lent: the answer has no list or dict in it -/
def gCallL (m : Mir) : List OV → Option OV := fun os => match m ((OV.eraseL os).map OV.fz) with
  | some (r, _) => if still r.erase then some (.fz r.erase) else none
  | none => none
theorem callx_L {m : Mir} {E : XK} : CallX K (fun vs H Q => spF K m (vs ++ []) H Q E) (gCallL m) := by
  intro n F H σ S own xs os o Q st r hg he
  unfold gCallL at hg
  split at hg
  · rename_i r1 avs' h2
    split at hg
    · rename_i hs
      cases hg
      have rr := r.rpH st.fh
      rw [List.append_nil]
      refine ⟨⟨H, H, fun i => xs.getD i .non⟩, H, _, fun _ => [], r1, avs', St.frozenArgs (Same.refl H) rr, fun i v q => by simp [q], h2, fun F' H' own' v as e st' t => ?_⟩
      have fh : Same F H' := fun a o q => st'.rh a o (st.fh a o q)
      refine he _ H' v [] tupsOf_F st'.rh (st.grow tupsOf_F (tupsOf_H fh) st'.rh fun a o q => ?_) (Tmp.fz ((t.ro.rpH st'.fh).still fh hs))
      rcases tupsOf_new q with z | ⟨_, _, z⟩
      · exact .inl z
      · exact .inr (.inl z)
    · cases hg
  · cases hg
theorem run_g {k : Nat} {f : Addr} {fd : FuncData} {ps : List Str} {sp : Sp} {pins : List (Addr × Obj)} {σ : L2.St} {H : Hp} {s : Shared} {Q : VK} {us : List Value} {vs : List V} (F : FnG X.prog X.w X.K X.mg X.base k f fd ps sp) (hgd : X.A.guards = some []) (hr : Room k X.A)
    (hb : Binds X.K fd ps []) (I : L2.Inv X pins σ H s) (r : Vals vs us) (h : sp (vs ++ []) H Q E0) : wpAny (model X.prog X.w) X.A (PySem.call (.ref f) us) (EP X pins σ Q) X.xe s := by
  rw [List.append_nil] at h
  have hl : (us ++ []).length = ps.length := by rw [List.append_nil, ← r.length]; exact F.len _ _ _ _ h
  have hbi := hb s us I.kIn hl
  rw [List.append_nil] at hbi
  refine wpAny_call (codeAny_mono (F.run X.A X.stack s H ⟨us, []⟩ us vs Q E0 hgd hr I.env0 hbi r h) fun res s' hq => ?_)
  match res, hq with
  | .ok (.ret u), hq => exact I.after hq
theorem pe_fd {k j : Nat} {x : Str} {m : Mir} {t : TA} {p' : Pos} {t' : TE} (G : Fd X.prog X.w X.K X.mg X.base k x m) (hgd : X.A.guards = some []) (hr : Room j X.A) (hk : k ≤ j) (hg : Gl X x) (ha : PA X (e :: es) t) (i : ∀ σ H Q, t' σ H Q → tCall (spF X.K m) [] E0 t σ H Q)
    (hdb : (x == ("__debug__" : Str)) = false := by decide) (he : starEach (e :: es) X.env = (false, eval e X.env) :: starEach es X.env := by rfl) (hpl : (backTo pos (starEach es X.env)).any (·.1) = false := by rfl) : PE X (.Call (.Name x p') (e :: es) [] pos) t' := by
  obtain ⟨f, fd, ps, F, h1, h2, h3⟩ := G.ex
  refine ⟨fun pins s σ H Q I h => wpAny_Call_Name_kw (ld_glob I hg h1 ?_ hdb)⟩
  refine PySem.W.callWith_K (h₀ := X.base) I.ok.mod.kin h2 (thn (ha.run pos pins s σ H _ I (i σ H Q h)) ?_) he hpl
  rintro us s1 ⟨vs, H1, I1, r, q⟩
  exact ⟨I1.kIn, run_g F hgd (hr.mono hk) h3 I1 r q⟩
theorem pe_fd0 {k j : Nat} {x : Str} {m : Mir} {p' : Pos} {t' : TE} (G : Fd X.prog X.w X.K X.mg X.base k x m) (hgd : X.A.guards = some []) (hr : Room j X.A) (hk : k ≤ j) (hg : Gl X x) (i : ∀ σ H Q, t' σ H Q → tCall (spF X.K m) [] E0 tNil σ H Q)
    (hdb : (x == ("__debug__" : Str)) = false := by decide) : PE X (.Call (.Name x p') [] [] pos) t' := by
  obtain ⟨f, fd, ps, F, h1, h2, h3⟩ := G.ex
  exact ⟨fun pins s σ H Q I h => wpAny_Call_Name_kw (ld_glob I hg h1 (PySem.W.callWith_K0 I.kIn h2 (run_g (us := []) F hgd (hr.mono hk) h3 I .nil (i σ H Q h))) hdb)⟩
/-- f(e, ..), the arguments frozen -/
theorem d_call {k j : Nat} {x : Str} {m : Mir} {p' : Pos} (G : Fd X.prog X.w X.K X.mg X.base k x m) (hgd : X.A.guards = some []) (hr : Room j X.A) (ha : DA X pa (e :: es) ga) (hk : k ≤ j := by decide) (hg : Gl X x := by rfl)
    (hdb : (x == ("__debug__" : Str)) = false := by decide) (he : starEach (e :: es) X.env = (false, eval e X.env) :: starEach es X.env := by rfl) (hpl : (backTo pos (starEach es X.env)).any (·.1) = false := by rfl) : DO X pa (.Call (.Name x p') (e :: es) [] pos) (eCall (gCallF m) ga) :=
  ⟨pe_fd G hgd hr hk hg ha.pa (call_imp callx_F) hdb he hpl⟩
/-- f(e, ..), own things lent -/
theorem d_callL {k j : Nat} {x : Str} {m : Mir} {p' : Pos} (G : Fd X.prog X.w X.K X.mg X.base k x m) (hgd : X.A.guards = some []) (hr : Room j X.A) (ha : DA X pa (e :: es) ga) (hk : k ≤ j := by decide) (hg : Gl X x := by rfl)
    (hdb : (x == ("__debug__" : Str)) = false := by decide) (he : starEach (e :: es) X.env = (false, eval e X.env) :: starEach es X.env := by rfl) (hpl : (backTo pos (starEach es X.env)).any (·.1) = false := by rfl) : DO X pa (.Call (.Name x p') (e :: es) [] pos) (eCall (gCallL m) ga) :=
  ⟨pe_fd G hgd hr hk hg ha.pa (call_imp callx_L) hdb he hpl⟩
theorem d_call0 {k j : Nat} {x : Str} {m : Mir} {p' : Pos} (G : Fd X.prog X.w X.K X.mg X.base k x m) (hgd : X.A.guards = some []) (hr : Room j X.A) (hk : k ≤ j := by decide) (hg : Gl X x := by rfl) (hdb : (x == ("__debug__" : Str)) = false := by decide) : DO X true (.Call (.Name x p') [] [] pos) (eCall (gCallF m) aNil) :=
  ⟨pe_fd0 G hgd hr hk hg (fun σ H Q h => by
    obtain ⟨n, F, S, own, os, S', st, hf, q⟩ := call_imp (K := X.K) (ga := aNil) (pa := true) (callx_F (E := E0)) σ H Q h
    cases hf
    exact q F H own [] (Same.refl F) st .nil .refl) hdb⟩

/-! ### a call that changes one own thing -/
abbrev EQ' := SS → Option (List (Option PyData) × SS)
/-- the arguments: data, or the thing of slot i -/
inductive QR (K : Frg) (F : Hp) (u : Option (Option V)) : List V → List (Option PyData) → Prop
  | nil : QR K F u [] []
  | da {v : V} {vs : List V} {d : PyData} {ds : List (Option PyData)} : Rp K F v d → QR K F u vs ds → QR K F u (v :: vs) (some d :: ds)
  | sl {v : V} {vs : List V} {ds : List (Option PyData)} : u = some (some v) → QR K F u vs ds → QR K F u (v :: vs) (none :: ds)
theorem QR.mono {F F' : Hp} {u : Option (Option V)} (e : Same F F') : ∀ {vs : List V} {ds : List (Option PyData)}, QR K F u vs ds → QR K F' u vs ds
  | _, _, .nil => .nil
  | _, _, .da h r => .da (h.mono e) (QR.mono e r)
  | _, _, .sl h r => .sl h (QR.mono e r)
theorem QR.length {F : Hp} {u : Option (Option V)} : ∀ {vs : List V} {ds : List (Option PyData)}, QR K F u vs ds → vs.length = ds.length
  | _, _, .nil => rfl
  | _, _, .da _ r => by simp [QR.length r]
  | _, _, .sl _ r => by simp [QR.length r]
theorem QR.get {F : Hp} {u : Option (Option V)} : ∀ {vs : List V} {ds : List (Option PyData)} {j : Nat} {o : Option PyData}, QR K F u vs ds → ds[j]? = some o → ∃ v, vs[j]? = some v ∧ (match o with
    | some d => Rp K F v d
    | none => u = some (some v))
  | _, _, _, _, .nil, e => by simp at e
  | _, _, 0, _, .da h _, e => by simp at e; subst e; exact ⟨_, rfl, h⟩
  | _, _, 0, _, .sl h _, e => by simp at e; subst e; exact ⟨_, rfl, h⟩
  | _, _, j + 1, _, .da _ r, e => by
    obtain ⟨v, h1, h2⟩ := QR.get (j := j) r (by simpa using e)
    exact ⟨v, by simpa using h1, h2⟩
  | _, _, j + 1, _, .sl _ r, e => by
    obtain ⟨v, h1, h2⟩ := QR.get (j := j) r (by simpa using e)
    exact ⟨v, by simpa using h1, h2⟩
def tQ (K : Frg) (i : Nat) (f : EQ') : TA := fun σ H Q => ∃ n F S own qs S', St K n F H σ S own ∧ f S = some (qs, S') ∧
  ∀ F' H' own' vs, Same F F' → St K n F' H' σ S' own' → QR K F' σ[i]? vs qs → Q vs H'
structure DQ (X : Cx) (i : Nat) (es : List Expr) (f : EQ') : Prop where
  pa : PA X es (tQ X.K i f)
def qNil : EQ' := fun S => some ([], S)
def qFz (fa : EV) (fb : EQ') : EQ' := fun S => match fa S with
  | some (.fz d, S1) => (match fb S1 with
    | some (qs, S2) => some (some d :: qs, S2)
    | none => none)
  | _ => none
def qIo (i : Nat) (fb : EQ') : EQ' := fun S => match S[i]? with
  | some .un => none
  | some _ => (match fb S with
    | some (qs, S2) => some (none :: qs, S2)
    | none => none)
  | none => none
variable {i : Nat} {gq : EQ'}
theorem q_nil : DQ X i [] qNil := ⟨pa_nil.imp fun σ H Q ⟨n, F, S, own, os, S', st, hf, q⟩ => by
  cases hf
  exact q F H own [] (Same.refl F) st .nil⟩
theorem q_fz (ha : DX X pa e fa) (hb : DQ X i es gq) (hs : starEach (e :: es) X.env = (false, eval e X.env) :: starEach es X.env := by rfl) : DQ X i (e :: es) (qFz fa gq) := ⟨(pa_cons ha.pe hb.pa hs).imp fun σ H Q ⟨n, F, S, own, os, S', st, hf, q⟩ => by
  unfold qFz at hf
  split at hf
  · rename_i d S1 h1
    split at hf
    · rename_i qs S2 h2
      cases hf
      refine ⟨n, F, S, own, _, S1, st, h1, fun F1 H1 own1 v as e1 st1 r1 pu1 => ?_⟩
      refine ⟨n, F1, S1, own1, qs, S', st1, h2, fun F2 H2 own2 vs e2 st2 r2 => ?_⟩
      exact q F2 H2 own2 (v :: vs) (e1.trans e2) st2 (.da (r1.rp.mono e2) r2)
    · cases hf
  · cases hf⟩
theorem q_io {x : Str} {pos' : Pos} (h : PE X (.Name x pos') (tVar i)) (hb : DQ X i es gq) (hs : starEach (.Name x pos' :: es) X.env = (false, eval (.Name x pos') X.env) :: starEach es X.env := by rfl) : DQ X i (.Name x pos' :: es) (qIo i gq) := ⟨(pa_cons h hb.pa hs).imp fun σ H Q ⟨n, F, S, own, os, S', st, hf, q⟩ => by
  unfold qIo at hf
  split at hf
  · cases hf
  · rename_i sv hne he
    split at hf
    · rename_i qs S2 h2
      cases hf
      have hv : ∃ v, σ[i]? = some (some v) := by
        cases sv with
        | un => exact absurd rfl hne
        | v o => obtain ⟨v, h1, _⟩ := st.slot i o he; exact ⟨v, h1⟩
        | io o => exact ⟨_, (st.slio i o he).1⟩
      obtain ⟨v, hv⟩ := hv
      refine ⟨v, hv, n, F, S, own, qs, S', st, h2, fun F2 H2 own2 vs e2 st2 r2 => ?_⟩
      exact q F2 H2 own2 (v :: vs) e2 st2 (.sl hv r2)
    · cases hf
  · cases hf⟩
/-- where the one own argument stands -/
def ioAt : List (Option PyData) → Option Nat
  | [] => none
  | none :: r => if r.all (·.isSome) then some 0 else none
  | some _ :: r => (ioAt r).map (· + 1)
theorem ioAt_ok : ∀ {qs : List (Option PyData)} {j : Nat}, ioAt qs = some j → qs[j]? = some none ∧ ∀ k, qs[k]? = some none → k = j
  | [], _, h => by cases h
  | none :: r, j, h => by
    simp only [ioAt] at h
    split at h
    · rename_i hr
      cases h
      refine ⟨rfl, fun k hk => ?_⟩
      cases k with
      | zero => rfl
      | succ k =>
        have hk : r[k]? = some none := by simpa using hk
        have := List.all_eq_true.mp hr none (List.mem_of_getElem? hk)
        simp at this
    · cases h
  | some d :: r, j, h => by
    simp only [ioAt, Option.map_eq_some_iff] at h
    obtain ⟨j', h1, rfl⟩ := h
    obtain ⟨h2, h3⟩ := ioAt_ok h1
    refine ⟨by simpa using h2, fun k hk => ?_⟩
    cases k with
    | zero => simp at hk
    | succ k => rw [h3 k (by simpa using hk)]
def svOv : SV → Option (OV × Bool)
  | .v o => some (o, false)
  | .io o => some (o, true)
  | .un => none
def mkSv (b : Bool) (o : OV) : SV := if b then .io o else .v o
def eIo (m : Mir) (i : Nat) (fq : EQ') : EV := fun S => match fq S with
  | some (qs, S1) => (match ioAt qs, (S1[i]?).bind svOv with
    | some j, some (o, b) => if o.isFz then none else (match m (qs.map fun q => match q with
        | some d => .fz d
        | none => o) with
      | some (r, avs') => (match avs'[j]? with
        | some o' => if o'.isFz then none else some (r, S1.set i (mkSv b o'))
        | none => none)
      | none => none)
    | _, _ => none)
  | none => none
theorem call_io {m : Mir} {E : XK} (σ : L2.St) (H : Hp) (Q : VK) : tO K false (eIo m i gq) σ H Q → tQ K i gq σ H (fun vs H1 => spF K m (vs ++ []) H1 Q E) := fun ⟨n, F, S, own, r, S2, st, hf, q⟩ => by
  unfold eIo at hf
  split at hf
  · rename_i qs S1 hq
    split at hf
    · rename_i j o b hj ho
      split at hf
      · cases hf
      · rename_i hfz
        have hfz : o.isFz = false := by simpa using hfz
        split at hf
        · rename_i r' avs' hm
          split at hf
          · rename_i o' ho'
            split at hf
            · cases hf
            · rename_i hfz'
              have hfz' : o'.isFz = false := by simpa using hfz'
              cases hf
              refine ⟨n, F, S, own, qs, S1, st, hq, fun F1 H1 own1 vs e1 st1 rq => ?_⟩
              show spF K m (vs ++ []) H1 Q E
              rw [List.append_nil]
              obtain ⟨hj1, hj2⟩ := ioAt_ok hj
              obtain ⟨vj, hvj, hvσ⟩ := rq.get hj1
              have hvσ : σ[i]? = some (some vj) := hvσ
              -- the slot's thing
              obtain ⟨sv, hsv, hso⟩ := Option.bind_eq_some_iff.mp ho
              have ro : RO K F1 H1 (own1 i) vj o := by
                cases sv with
                | un => cases hso
                | v o1 =>
                  cases hso
                  obtain ⟨v, h1, h2⟩ := st1.slot i o hsv
                  rw [hvσ] at h1; cases h1; exact h2
                | io o1 =>
                  cases hso
                  obtain ⟨h1, h2⟩ := st1.slio i o hsv
                  rw [hvσ] at h1; cases h1; exact h2
              have hiS : i < S1.length := (List.getElem?_eq_some_iff.mp hsv).1
              let R' : Hp := fun a => if a ∈ own1 i then none else H1 a
              have hRn : ∀ a, R' a = none → a ∈ own1 i ∨ H1 a = none := fun a z => by
                by_cases w : a ∈ own1 i
                · exact .inl w
                · exact .inr (by rw [← z]; exact (if_neg w).symm)
              have hRo : ∀ a, a ∉ own1 i → R' a = H1 a := fun a z => if_neg z
              have hRi : ∀ a, a ∈ own1 i → R' a = none := fun a z => if_pos z
              have hnR : ∀ a, R' a = none → n.R a = none := fun a z => by
                rcases hRn a z with z | z
                · exact (st1.out i a z).2
                · cases w : n.R a with
                  | none => rfl
                  | some u => rw [st1.rh a u w] at z; cases z
              have hno : ∀ a, R' a = none → ∀ k, k ≠ i → a ∉ own1 k := fun a z k hk h => by
                rcases hRn a z with z | z
                · exact st1.dis k i hk a h z
                · obtain ⟨o, w, _⟩ := st1.dom h; rw [z] at w; cases w
              refine ⟨⟨R', F1, fun k => vs.getD k .non⟩, F1, _, fun k => if k = j then own1 i else [], r, avs', ⟨st1.fh, fun a u z => ?_, Same.refl F1, fun a u z => .inr (.inr z), by simp [rq.length], fun k u z => ?_, fun k u z => ?_, fun k h1 h2 => ?_, fun k => ?_, fun k l hkl a h h' => ?_, fun k a h => ?_⟩, fun k v z => by simp [z], hm, fun F' H' own' v as e st' t => ?_⟩
              · have z : R' a = some u := z
                by_cases w : a ∈ own1 i
                · rw [hRi a w] at z; cases z
                · rw [hRo a w] at z; exact z
              · rw [List.getElem?_map, List.getElem?_map] at z
                cases hk : qs[k]? with
                | none => rw [hk] at z; cases z
                | some x =>
                  obtain ⟨v, h1, h2⟩ := rq.get hk
                  cases x with
                  | none => rw [hk] at z; simp only [Option.map_some, entry_io hfz] at z; cases z
                  | some d =>
                    rw [hk] at z
                    simp only [Option.map_some, entry, Option.some.injEq, SV.v.injEq] at z
                    subst z
                    refine ⟨v, by rw [List.getElem?_map, h1]; rfl, ?_⟩
                    have hkj : k ≠ j := fun w => by rw [w, hj1] at hk; cases hk
                    rw [if_neg hkj]
                    exact .fz h2
              · rw [List.getElem?_map, List.getElem?_map] at z
                cases hk : qs[k]? with
                | none => rw [hk] at z; cases z
                | some x =>
                  cases x with
                  | some d => rw [hk] at z; simp [entry] at z
                  | none =>
                    have hkj := hj2 k hk
                    subst hkj
                    rw [hk] at z
                    simp only [Option.map_some, entry_io hfz, Option.some.injEq, SV.io.injEq] at z
                    subst z
                    refine ⟨by rw [List.getElem?_map, hvj]; simp [hvj], ?_⟩
                    rw [if_pos rfl]
                    simpa [hvj] using ro
              · by_cases hkj : k = j
                · subst hkj
                  refine absurd ?_ (h2 o)
                  rw [List.getElem?_map, List.getElem?_map, hj1]
                  simp only [Option.map_some, entry_io hfz]
                · rw [if_neg hkj]
              · show (if k = j then own1 i else []).Nodup
                split
                · exact st1.nod i
                · exact List.nodup_nil
              · have h : a ∈ if k = j then own1 i else [] := h
                have h' : a ∈ if l = j then own1 i else [] := h'
                by_cases w : k = j
                · rw [if_neg (fun w' => hkl (w.trans w'.symm))] at h'; cases h'
                · rw [if_neg w] at h; cases h
              · have h : a ∈ if k = j then own1 i else [] := h
                by_cases w : k = j
                · rw [if_pos w] at h; exact ⟨(st1.out i a h).1, hRi a h⟩
                · rw [if_neg w] at h; cases h
              · -- behind the call
                have hio' : (avs'.map entry)[j]? = some (.io o') := by rw [List.getElem?_map, ho']; simp only [Option.map_some, entry_io hfz']
                obtain ⟨_, ro'⟩ := st'.slio j o' hio'
                have ro2 : RO K F' H' (own' j) vj o' := by simpa [hvj] using ro'
                have keepO : ∀ k, k ≠ i → ∀ a ∈ own1 k, H' a = H1 a := fun k hk a h => by
                  obtain ⟨u, w, _⟩ := st1.dom h
                  rw [w]
                  exact st'.rh a u ((hRo a (st1.dis k i hk a h)).trans w)
                have hFk : ∀ k, k ≠ i → ∀ a ∈ own1 k, F' a = none := fun k hk a h => by
                  obtain ⟨u, w, w2⟩ := st1.dom h
                  cases z : F' a with
                  | none => rfl
                  | some u' =>
                    rcases st'.good a u' z with g | g | g
                    · have := st'.fh a u' z
                      rw [keepO k hk a h, w] at this
                      cases this
                      cases u <;> first | (exfalso; simp [isOwnO] at w2; done) | (exfalso; simp [isTupO] at g; done)
                    · exact absurd h (hno a g k hk)
                    · have : F1 a = some u' := g
                      rw [(st1.out k a h).1] at this; cases this
                have ht := fun a z => hno a ((t.out a z).2.1)
                have sgood : ∀ a u, F' a = some u → isTupO u = true ∨ n.R a = none ∨ n.F0 a = some u := fun a u z => by
                  rcases st'.good a u z with g | g | g
                  · exact .inl g
                  · exact .inr (.inl (hnR a g))
                  · exact st1.good a u g
                have srh : Same n.R H' := fun a u z => by
                  have w : a ∉ own1 i := fun w => by rw [(st1.out i a w).2] at z; cases z
                  exact st'.rh a u ((hRo a w).trans (st1.rh a u z))
                refine q F' H' (fun k => if k = i then own' j else own1 k) v as (e1.trans e) ⟨st'.fh, srh, st1.f0.trans e, sgood, by simp [st1.len], fun k u z => ?_, fun k u z => ?_, fun k h1 h2 => ?_, fun k => ?_, fun k l hkl a h h' => ?_, fun k a h => ?_⟩ ⟨t.ro, t.nod, fun a z => ⟨(t.out a z).1, hnR a (t.out a z).2.1, fun k => ?_⟩⟩ (fun z => nomatch z)
                · by_cases w : k = i
                  · subst w
                    rw [List.getElem?_set_self hiS] at z
                    unfold mkSv at z
                    split at z
                    · cases z
                    · cases z
                      rw [if_pos rfl]
                      exact ⟨vj, hvσ, ro2⟩
                  · rw [List.getElem?_set_ne (Ne.symm w)] at z
                    rw [if_neg w]
                    obtain ⟨v2, w1, w2⟩ := st1.slot k u z
                    exact ⟨v2, w1, w2.frame e (keepO k w)⟩
                · by_cases w : k = i
                  · subst w
                    rw [List.getElem?_set_self hiS] at z
                    unfold mkSv at z
                    split at z
                    · cases z
                      rw [if_pos rfl]
                      cases sv with
                      | un => cases hso
                      | v o1 =>
                        rename_i hb
                        cases hso
                        cases hb
                      | io o1 =>
                        obtain ⟨w1, _⟩ := st1.slio k o1 hsv
                        rw [hvσ] at w1
                        cases w1
                        exact ⟨hvσ, ro2⟩
                    · cases z
                  · rw [List.getElem?_set_ne (Ne.symm w)] at z
                    rw [if_neg w]
                    obtain ⟨w1, w2⟩ := st1.slio k u z
                    exact ⟨w1, w2.frame e (keepO k w)⟩
                · by_cases w : k = i
                  · subst w
                    unfold mkSv at h1 h2
                    cases b
                    · exact absurd (List.getElem?_set_self hiS) (h1 o')
                    · exact absurd (List.getElem?_set_self hiS) (h2 o')
                  · rw [if_neg w]
                    exact st1.un k (fun u z => h1 u (by rw [List.getElem?_set_ne (Ne.symm w)]; exact z)) (fun u z => h2 u (by rw [List.getElem?_set_ne (Ne.symm w)]; exact z))
                · show (if k = i then own' j else own1 k).Nodup
                  split
                  · exact st'.nod j
                  · exact st1.nod k
                · have h : a ∈ if k = i then own' j else own1 k := h
                  have h' : a ∈ if l = i then own' j else own1 l := h'
                  by_cases wk : k = i
                  · rw [if_pos wk] at h
                    have wl : l ≠ i := fun w => hkl (wk.trans w.symm)
                    rw [if_neg wl] at h'
                    exact hno a (st'.out j a h).2 l wl h'
                  · rw [if_neg wk] at h
                    by_cases wl : l = i
                    · rw [if_pos wl] at h'
                      exact hno a (st'.out j a h').2 k wk h
                    · rw [if_neg wl] at h'
                      exact st1.dis k l hkl a h h'
                · have h : a ∈ if k = i then own' j else own1 k := h
                  by_cases wk : k = i
                  · rw [if_pos wk] at h
                    exact ⟨(st'.out j a h).1, hnR a (st'.out j a h).2⟩
                  · rw [if_neg wk] at h
                    exact ⟨hFk k wk a h, (st1.out k a h).2⟩
                · show a ∉ if k = i then own' j else own1 k
                  split
                  · exact (t.out a z).2.2 j
                  · rename_i w
                    exact hno a (t.out a z).2.1 k w
          · cases hf
        · cases hf
    · cases hf
  · cases hf
/-- f(e, ..) that changes the own thing of slot i -/
theorem d_callIo {k j : Nat} {x : Str} {m : Mir} {p' : Pos} (i : Nat) (G : Fd X.prog X.w X.K X.mg X.base k x m) (hgd : X.A.guards = some []) (hr : Room j X.A) (ha : DQ X i (e :: es) gq) (hk : k ≤ j := by decide) (hg : Gl X x := by rfl)
    (hdb : (x == ("__debug__" : Str)) = false := by decide) (he : starEach (e :: es) X.env = (false, eval e X.env) :: starEach es X.env := by rfl) (hpl : (backTo pos (starEach es X.env)).any (·.1) = false := by rfl) : DO X false (.Call (.Name x p') (e :: es) [] pos) (eIo m i gq) :=
  ⟨pe_fd G hgd hr hk hg ha.pa call_io hdb he hpl⟩
end
end PD
set_option Elab.async false
set_option linter.all false
set_option maxRecDepth 100000
set_option maxHeartbeats 4000000
namespace PD
open PySem PySem.Spec PyProof.Rows L2

/-! ### a list or a tuple that is walked -/
def SqA (K : Frg) (H : Hp) (t : Bool) (a : Addr) (xs : List V) : Prop := if t then SqT K H a xs else SqL K H a xs
def SqIt (t : Bool) (h : Heap) (it a : Addr) (i : Nat) : Prop := if t then h.IsTupleIter it a i else h.IsListIter it a i
def SqOb (t : Bool) (h : Heap) (a : Addr) (its : Array Value) : Prop := if t then h.IsTuple a its else h.IsList a its
def itO (t : Bool) (a : Addr) : Obj := if t then { cls := .type "tuple_iterator", data := .fields #[.ref a, .int 0 0] } else { cls := .type "list_iterator", data := .fields #[.ref a, .int 0 0] }
section
variable {K : Frg} {t : Bool} {H : Hp} {a it : Addr} {xs : List V} {h h' : Heap} {i : Nat} {its : Array Value}
theorem SqIt.keep (s : SqIt t h it a i) (k : ∀ o, h.get? it = some o → h'.get? it = some o) : SqIt t h' it a i := by
  cases t with
  | true =>
    have s : h.IsTupleIter it a i := s
    exact (show h'.IsTupleIter it a i from s.at k)
  | false =>
    have s : h.IsListIter it a i := s
    exact (show h'.IsListIter it a i from s.at k)
theorem SqIt.obj (s : SqIt t h it a i) : ∃ o, h.get? it = some o ∧ ∀ v, o.data ≠ .cell v := by
  cases t with
  | true =>
    obtain ⟨o, e, c, d⟩ := (show h.IsTupleIter it a i from s)
    exact ⟨o, e, fun v z => by rw [d] at z; cases z⟩
  | false =>
    obtain ⟨o, e, c, d⟩ := (show h.IsListIter it a i from s)
    exact ⟨o, e, fun v z => by rw [d] at z; cases z⟩
theorem SqOb.keep (s : SqOb t h a its) (k : ∀ o, h.get? a = some o → h'.get? a = some o) : SqOb t h' a its := by
  cases t with
  | true =>
    have s : h.IsTuple a its := s
    exact (show h'.IsTuple a its from s.at k)
  | false =>
    have s : h.IsList a its := s
    exact (show h'.IsList a its from s.at k)
theorem SqA.mono {H' : Hp} (e : Same H H') (s : SqA K H t a xs) : SqA K H' t a xs := by
  cases t with
  | true => exact Same.sqT e (show SqT K H a xs from s)
  | false => exact Same.sqL e (show SqL K H a xs from s)
theorem sq_draws {prog : Program} {w : World} {A : Around} (hh : A.handled = none) (hne : a ≠ it) (its : Array Value) :
    Draws prog w A it [it, a] its.size (fun i v => its[i]? = some v) (fun i h => SqIt t h it a i ∧ SqOb t h a its) := by
  cases t with
  | true => exact (Draws.tuple hh it a hne its)
  | false => exact (Draws.list hh it a hne its)
theorem sq_begins (its : Array Value) : Begins (.ref a) (itO t a) fun h => SqOb t h a its := by
  cases t with
  | true => exact begins_tuple a its
  | false => exact begins_list a its
theorem sq_start (e : h.get? it = some (itO t a)) : SqIt t h it a 0 := by
  cases t with
  | true => exact ⟨_, e, rfl, rfl⟩
  | false => exact ⟨_, e, rfl, rfl⟩
end
section
variable {X : Cx} {pins : List (Addr × Obj)} {σ : L2.St} {H : Hp} {s : Shared} {t : Bool} {a : Addr} {xs : List V}
theorem inv_sq (I : Inv X pins σ H s) (h : SqA X.K H t a xs) : ∃ its : List Value, Vals xs its ∧ SqOb t s.heap a its.toArray ∧ a < s.heap.objs.size := by
  cases t with
  | true =>
    obtain ⟨its, r, p, _⟩ := I.tuple (show SqT X.K H a xs from h)
    exact ⟨its, r, p, p.lt⟩
  | false =>
    obtain ⟨its, r, p, _⟩ := I.list (show SqL X.K H a xs from h)
    obtain ⟨o, n, e, _⟩ := id p
    exact ⟨its, r, p.isList, Heap.lt_size e⟩
/-- a source stands apart from an iterator's cells -/
theorem sq_ne (I : Inv X pins σ H s) (h : SqA X.K H t a xs) {b : Addr} (f : FpOk X pins H b) : a ≠ b := by
  rintro rfl
  have tr : ∀ u, ¬ Rd H a u := fun u r => by
    rcases r with r | ⟨o, r⟩ <;> (rw [f.1] at r; cases r)
  have co : ∀ o, ¬ X.K.lookup a = some o := fun o e => by
    have e1 := I.ok.mod.kin a o e
    rcases f.2.2.2.1 with z | z
    · exact I.ok.noex a o e1 z
    · exact absurd (Nat.lt_of_lt_of_le (Heap.lt_size (I.ok.bs a o e1).1) z) (Nat.lt_irrefl _)
  cases t with
  | true =>
    rcases (show SqT X.K H a xs from h) with r | ⟨o, _, _, e, _⟩
    · exact tr _ r
    · exact co o e
  | false =>
    rcases (show SqL X.K H a xs from h) with r | ⟨o, _, _, e, _⟩
    · exact tr _ r
    · exact co o e
end

/-! ### enumerate, zip over lists and tuples that stand still -/
/-- at turn i a new tuple of the values VR i -/
def ItN (n : Nat) (src : Hp → Prop) (VR : Nat → List V) : It :=
  ⟨fun i H => i < n ∧ src H, fun i H v H' => ∃ T, v = .ref T ∧ H T = none ∧ H' = upd H T (.tup (VR i)), fun i H => i = n ∧ src H⟩
section
variable {P : Program} {w : World} {K : Frg} {elts : List Expr} {kk : Nat} {tpos : Pos}
theorem turn_enumS {t : Bool} {a e it : Addr} {xs : List V} (k₀ : Int) (hei : e ≠ it) :
    Turn P w K (.Tuple elts kk tpos) (ItN xs.length (fun H => SqA K H t a xs) fun i => [.int (k₀ + (i : Int)), xs.getD i .non]) [e, it] e (fun i h => (∃ old, IsEnum h e it (k₀ + (i : Int)) old) ∧ SqIt t h it a i) where
  mem := by simp
  obj := fun i h st b hb => by
    obtain ⟨⟨old, he⟩, hi⟩ := st
    have e' : b = e ∨ b = it := by simpa using hb
    rcases e' with z | z
    · rw [z]; exact ⟨_, he, fun v q => nomatch q⟩
    · rw [z]; exact hi.obj
  keep := fun i h h' st k => let ⟨⟨old, he⟩, hi⟩ := st; ⟨⟨old, k e (by simp) _ he⟩, hi.keep fun o q => k it (by simp) o q⟩
  item := by
    intro X hP hw hK hc i pins s σ H E I hf st hg
    subst hP hw hK
    obtain ⟨hi, hsrc⟩ := hg
    obtain ⟨its, rv, ob, hlt⟩ := inv_sq I hsrc
    have hne : a ≠ it := sq_ne I hsrc (hf it (by simp))
    have hne2 : a ≠ e := sq_ne I hsrc (hf e (by simp))
    have hl := rv.length
    have W := GoesN.enumFrom (prog := X.prog) (w := X.w) (A := X.A) (elts := elts) (x1 := kk) (pos := tpos) k₀ (sq_draws (t := t) (A := X.A.in1) (by first | exact I.ok.hd hc | simpa using I.ok.hd hc) hne its.toArray) e hei (by simp [hei, Ne.symm hne2]) (by simp)
    refine wpAny_mono (W.goes i s (fun v s₂ => ∃ x H', Inv X pins σ H' s₂ ∧ RelV x v ∧ (ItN xs.length (fun H => SqA X.K H t a xs) fun i => [.int (k₀ + (i : Int)), xs.getD i .non]).yld i H x H' ∧ ((∃ old, IsEnum s₂.heap e it (k₀ + ((i + 1 : Nat) : Int)) old) ∧ SqIt t s₂.heap it a (i + 1)) ∧ ∀ b ∈ [e, it], H' b = none) E
      (by simp; omega) ⟨st.1, st.2, ob⟩ fun v h' tk hY hS hk htk => ?_) (fun r s1 h1 => h1) fun _ _ z => z
    obtain ⟨T, tt, x, rfl, hT, hx, hTup⟩ := hY
    have hi' : i < its.length := by omega
    have hx' : x = its[i] := by simpa [hi'] using hx.symm
    obtain ⟨u, hu, ru⟩ := rv.get (List.getElem?_eq_getElem hi)
    have hux : u = x := by rw [hx']; rw [List.getElem?_eq_getElem hi'] at hu; exact (Option.some.inj hu).symm
    subst hux
    have e1 : xs.getD i .non = xs[i] := by simp [hi]
    have new : ObjOk X.prog X.w (upd H T (.tup [.int (k₀ + (i : Int)), xs.getD i .non])) h' T (.tup [.int (k₀ + (i : Int)), xs.getD i .non]) :=
      ⟨by show 2 ≤ sizeLine; decide, [.int (k₀ + (i : Int)) tt, u], .cons ⟨_, rfl⟩ (.cons (by rw [e1]; exact ru) .nil), hTup⟩
    refine ⟨.ref T, _, I.turnedNew (ch := [e, it]) hk hf hT new, rfl, ⟨T, rfl, I.hok.fresh hT, rfl⟩, ⟨hS.1, hS.2.1⟩, fun b hb => ?_⟩
    obtain ⟨o, ho, _⟩ : ∃ o, s.heap.get? b = some o ∧ True := by
      have e' : b = e ∨ b = it := by simpa using hb
      rcases e' with z | z
      · rw [z]; obtain ⟨old, he⟩ := st.1; exact ⟨_, he, trivial⟩
      · rw [z]; obtain ⟨o, ho, _⟩ := st.2.obj; exact ⟨o, ho, trivial⟩
    rw [upd_ne (Nat.ne_of_lt (Nat.lt_of_lt_of_le (Heap.lt_size ho) hT))]
    exact (hf b hb).1
  done := by
    intro X hP hw hK hc i pins s σ H E I hf st hg
    subst hP hw hK
    obtain ⟨hi, hsrc⟩ := hg
    subst hi
    obtain ⟨its, rv, ob, hlt⟩ := inv_sq I hsrc
    have hne : a ≠ it := sq_ne I hsrc (hf it (by simp))
    have hne2 : a ≠ e := sq_ne I hsrc (hf e (by simp))
    have hl := rv.length
    have W := GoesN.enumFrom (prog := X.prog) (w := X.w) (A := X.A) (elts := elts) (x1 := kk) (pos := tpos) k₀ (sq_draws (t := t) (A := X.A.in1) (by first | exact I.ok.hd hc | simpa using I.ok.hd hc) hne its.toArray) e hei (by simp [hei, Ne.symm hne2]) (by simp)
    have hsz : its.toArray.size = xs.length := by simp [hl]
    refine W.stops s (fun s1 => Inv X pins σ H s1) E (by rw [hsz]; exact ⟨st.1, st.2, ob⟩) fun h' tk hk htk => ?_
    exact I.step (g' := s.gens) (d' := s.drawn) (t' := tk) (ch := [e, it]) (fun b hb => ⟨(hf b hb).2.2.2.1, (hf b hb).2.1, (hf b hb).2.2.2.2.1, (hf b hb).2.2.2.2.2⟩) (fun b o _ _ hc e _ => hk b o hc e) (fun b o _ _ hc e _ => ⟨o.slots, hk b o hc e⟩)
      (fun _ _ _ _ n => n) (fun b o hc e => ⟨o, hk b o hc e⟩) (fun _ _ e => e) (fun _ _ _ e => e) (fun b ps e => ⟨#[], by rw [e]; simp⟩) (fun m ⟨o, es, ep, ho, r⟩ => ⟨o, es, ep, hk _ o (fun z => (hf _ z).2.1 rfl) ho, r⟩)
      (fun b u e1 => (I.hok b u e1).stay (fun c v hc q => hk c v (fun z => by
        rcases hc with rfl | hc
        · rw [(hf _ z).1] at e1; cases e1
        · rw [(hf _ z).1] at hc; cases hc) q) (fun _ q => q) fun _ _ q => q) I.bare
  self := fun A i s Q E st h => let ⟨⟨_, he⟩, _⟩ := st; wpAny_pyIter_enum he h
theorem zsep {n0 a b : Nat} (ne1 : ∀ c ∈ [n0 + 4, n0 + 2, n0 + 3, n0, n0 + 1], a ≠ c) (ne2 : ∀ c ∈ [n0 + 4, n0 + 2, n0 + 3, n0, n0 + 1], b ≠ c) : ZipSep2 (n0 + 4) (n0 + 2) (n0 + 3) n0 (n0 + 1) [n0, a] [n0 + 1, b] :=
  { TIz := show (n0 + 2 : Nat) ≠ n0 + 4 by omega, TOz := show (n0 + 3 : Nat) ≠ n0 + 4 by omega, TITO := show (n0 + 2 : Nat) ≠ n0 + 3 by omega,
    TIi1 := show (n0 + 2 : Nat) ≠ n0 by omega, mem1 := List.mem_cons_self .., zf1 := by simp only [List.mem_cons, List.not_mem_nil, or_false, not_or]; exact ⟨show (n0 + 4 : Nat) ≠ n0 by omega, (ne1 (n0 + 4) (by simp)).symm⟩,
    Tf1 := by simp only [List.mem_cons, List.not_mem_nil, or_false, not_or]; exact ⟨show (n0 + 3 : Nat) ≠ n0 by omega, (ne1 (n0 + 3) (by simp)).symm⟩,
    TIi2 := show (n0 + 2 : Nat) ≠ n0 + 1 by omega, mem2 := List.mem_cons_self .., zf2 := by simp only [List.mem_cons, List.not_mem_nil, or_false, not_or]; exact ⟨show (n0 + 4 : Nat) ≠ n0 + 1 by omega, (ne2 (n0 + 4) (by simp)).symm⟩,
    Tf2 := by simp only [List.mem_cons, List.not_mem_nil, or_false, not_or]; exact ⟨show (n0 + 3 : Nat) ≠ n0 + 1 by omega, (ne2 (n0 + 3) (by simp)).symm⟩,
    sep1_2 := by simp only [List.mem_cons, List.not_mem_nil, or_false, not_or]; exact ⟨show (n0 : Nat) ≠ n0 + 1 by omega, (ne2 n0 (by simp)).symm⟩,
    sep2_1 := by simp only [List.mem_cons, List.not_mem_nil, or_false, not_or]; exact ⟨show (n0 + 1 : Nat) ≠ n0 by omega, (ne1 (n0 + 1) (by simp)).symm⟩ }
/-- zip of two -/
theorem turn_zip2S {t1 t2 : Bool} {a b z TI TO i1 i2 : Addr} {xs ys : List V} (n0 : Addr) (e0 : z = n0 + 4) (e1 : TI = n0 + 2) (e2 : TO = n0 + 3) (e3 : i1 = n0) (e4 : i2 = n0 + 1) :
    Turn P w K (.Tuple elts kk tpos) (ItN (min xs.length ys.length) (fun H => SqA K H t1 a xs ∧ SqA K H t2 b ys) fun i => [xs.getD i .non, ys.getD i .non]) [z, TI, TO, i1, i2] z
      (fun i h => IsZip h z TI TO .none ∧ IsTupOf2 h TI (.ref i1) (.ref i2) ∧ (∃ x y, IsTupOf2 h TO x y) ∧ SqIt t1 h i1 a i ∧ SqIt t2 h i2 b i) where
  mem := by simp
  obj := fun i h st c hb => by
    obtain ⟨h1, h2, ⟨x, y, h3⟩, h4, h5⟩ := st
    have e' : c = z ∨ c = TI ∨ c = TO ∨ c = i1 ∨ c = i2 := by simpa using hb
    rcases e' with q | q | q | q | q
    · rw [q]; exact ⟨_, h1, fun v q => nomatch q⟩
    · rw [q]; exact ⟨_, h2, fun v q => nomatch q⟩
    · rw [q]; exact ⟨_, h3, fun v q => nomatch q⟩
    · rw [q]; exact h4.obj
    · rw [q]; exact h5.obj
  keep := fun i h h' st k => let ⟨h1, h2, ⟨x, y, h3⟩, h4, h5⟩ := st
    ⟨k z (by simp) _ h1, k TI (by simp) _ h2, ⟨x, y, k TO (by simp) _ h3⟩, h4.keep fun o q => k i1 (by simp) o q, h5.keep fun o q => k i2 (by simp) o q⟩
  item := by
    intro X hP hw hK hc i pins s σ H E I hf st hg
    subst hP hw hK
    obtain ⟨hi, hs1, hs2⟩ := hg
    obtain ⟨its, rv, ob, hlt⟩ := inv_sq I hs1
    obtain ⟨jts, rw', ob2, hlt2⟩ := inv_sq I hs2
    have ne1 : ∀ c ∈ [z, TI, TO, i1, i2], a ≠ c := fun c hc => sq_ne I hs1 (hf c hc)
    have ne2 : ∀ c ∈ [z, TI, TO, i1, i2], b ≠ c := fun c hc => sq_ne I hs2 (hf c hc)
    have hl := rv.length
    have hl2 := rw'.length
    have n1 : i < xs.length := by omega
    have n2 : i < ys.length := by omega
    have S : ZipSep2 z TI TO i1 i2 [i1, a] [i2, b] := by
      subst e0 e1 e2 e3 e4
      exact zsep ne1 ne2
    have W := GoesN.zip2 (prog := X.prog) (w := X.w) (A := X.A) (elts := elts) (x1 := kk) (pos := tpos) S (sq_draws (t := t1) (A := X.A.in1) (by first | exact I.ok.hd hc | simpa using I.ok.hd hc) (ne1 i1 (by simp)) its.toArray) (sq_draws (t := t2) (A := X.A.in1) (by first | exact I.ok.hd hc | simpa using I.ok.hd hc) (ne2 i2 (by simp)) jts.toArray)
    refine wpAny_mono (W.goes i s (fun v s₂ => ∃ x H', Inv X pins σ H' s₂ ∧ RelV x v ∧ (ItN (min xs.length ys.length) (fun H => SqA X.K H t1 a xs ∧ SqA X.K H t2 b ys) fun i => [xs.getD i .non, ys.getD i .non]).yld i H x H' ∧
        (IsZip s₂.heap z TI TO .none ∧ IsTupOf2 s₂.heap TI (.ref i1) (.ref i2) ∧ (∃ x y, IsTupOf2 s₂.heap TO x y) ∧ SqIt t1 s₂.heap i1 a (i + 1) ∧ SqIt t2 s₂.heap i2 b (i + 1)) ∧ ∀ c ∈ [z, TI, TO, i1, i2], H' c = none) E
      (by simp; omega) ⟨st.1, st.2.1, st.2.2.1, ⟨st.2.2.2.1, ob⟩, ⟨st.2.2.2.2, ob2⟩⟩ fun v h' tk hY hS hk htk => ?_) (fun r s1 h1 => h1) fun _ _ z => z
    obtain ⟨T, x, y, rfl, hT, hx, hy, hTup⟩ := hY
    have hi1 : i < its.length := by omega
    have hi2 : i < jts.length := by omega
    have hx' : x = its[i] := by simpa [hi1] using hx.symm
    have hy' : y = jts[i] := by simpa [hi2] using hy.symm
    obtain ⟨u, hu, ru⟩ := rv.get (List.getElem?_eq_getElem n1)
    obtain ⟨u2, hu2, ru2⟩ := rw'.get (List.getElem?_eq_getElem n2)
    have hux : u = x := by rw [hx']; rw [List.getElem?_eq_getElem hi1] at hu; exact (Option.some.inj hu).symm
    have hux2 : u2 = y := by rw [hy']; rw [List.getElem?_eq_getElem hi2] at hu2; exact (Option.some.inj hu2).symm
    subst hux hux2
    have q1 : xs.getD i .non = xs[i] := by simp [n1]
    have q2 : ys.getD i .non = ys[i] := by simp [n2]
    have new : ObjOk X.prog X.w (upd H T (.tup [xs.getD i .non, ys.getD i .non])) h' T (.tup [xs.getD i .non, ys.getD i .non]) :=
      ⟨by show 2 ≤ sizeLine; decide, [u, u2], .cons (by rw [q1]; exact ru) (.cons (by rw [q2]; exact ru2) .nil), hTup⟩
    refine ⟨.ref T, _, I.turnedNew (ch := [z, TI, TO, i1, i2]) (fun c o hc q => hk c o (fun m => hc (by
      have : c = z ∨ c = TO ∨ c = i1 ∨ c = i2 := by simpa using m
      rcases this with q | q | q | q <;> simp [q])) q) hf hT new, rfl, ⟨T, rfl, I.hok.fresh hT, rfl⟩, ⟨hS.1, hS.2.1, hS.2.2.1, hS.2.2.2.1.1, hS.2.2.2.2.1⟩, fun c hb => ?_⟩
    obtain ⟨o, ho⟩ : ∃ o, s.heap.get? c = some o := by
      obtain ⟨h1, h2, ⟨x, y, h3⟩, h4, h5⟩ := st
      have e' : c = z ∨ c = TI ∨ c = TO ∨ c = i1 ∨ c = i2 := by simpa using hb
      rcases e' with q | q | q | q | q
      · rw [q]; exact ⟨_, h1⟩
      · rw [q]; exact ⟨_, h2⟩
      · rw [q]; exact ⟨_, h3⟩
      · rw [q]; obtain ⟨o, ho, _⟩ := h4.obj; exact ⟨o, ho⟩
      · rw [q]; obtain ⟨o, ho, _⟩ := h5.obj; exact ⟨o, ho⟩
    rw [upd_ne (Nat.ne_of_lt (Nat.lt_of_lt_of_le (Heap.lt_size ho) hT))]
    exact (hf c hb).1
  done := by
    intro X hP hw hK hc i pins s σ H E I hf st hg
    subst hP hw hK
    obtain ⟨hi, hs1, hs2⟩ := hg
    subst hi
    obtain ⟨its, rv, ob, hlt⟩ := inv_sq I hs1
    obtain ⟨jts, rw', ob2, hlt2⟩ := inv_sq I hs2
    have ne1 : ∀ c ∈ [z, TI, TO, i1, i2], a ≠ c := fun c hc => sq_ne I hs1 (hf c hc)
    have ne2 : ∀ c ∈ [z, TI, TO, i1, i2], b ≠ c := fun c hc => sq_ne I hs2 (hf c hc)
    have hl := rv.length
    have hl2 := rw'.length
    have S : ZipSep2 z TI TO i1 i2 [i1, a] [i2, b] := by
      subst e0 e1 e2 e3 e4
      exact zsep ne1 ne2
    have W := GoesN.zip2 (prog := X.prog) (w := X.w) (A := X.A) (elts := elts) (x1 := kk) (pos := tpos) S (sq_draws (t := t1) (A := X.A.in1) (by first | exact I.ok.hd hc | simpa using I.ok.hd hc) (ne1 i1 (by simp)) its.toArray) (sq_draws (t := t2) (A := X.A.in1) (by first | exact I.ok.hd hc | simpa using I.ok.hd hc) (ne2 i2 (by simp)) jts.toArray)
    have hsz : min its.toArray.size jts.toArray.size = min xs.length ys.length := by simp [hl, hl2]
    refine W.stops s (fun s1 => Inv X pins σ H s1) E (by rw [hsz]; exact ⟨st.1, st.2.1, st.2.2.1, ⟨st.2.2.2.1, ob⟩, ⟨st.2.2.2.2, ob2⟩⟩) fun h' tk hk htk => ?_
    have hk : ∀ c o, c ∉ [z, TI, TO, i1, i2] → s.heap.get? c = some o → h'.get? c = some o := fun c o hc q => hk c o (fun m => hc (by
      have : c = z ∨ c = TO ∨ c = i1 ∨ c = i2 := by simpa using m
      rcases this with q | q | q | q <;> simp [q])) q
    exact I.step (g' := s.gens) (d' := s.drawn) (t' := tk) (ch := [z, TI, TO, i1, i2]) (fun b hb => ⟨(hf b hb).2.2.2.1, (hf b hb).2.1, (hf b hb).2.2.2.2.1, (hf b hb).2.2.2.2.2⟩) (fun b o _ _ hc e _ => hk b o hc e) (fun b o _ _ hc e _ => ⟨o.slots, hk b o hc e⟩)
      (fun _ _ _ _ n => n) (fun b o hc e => ⟨o, hk b o hc e⟩) (fun _ _ e => e) (fun _ _ _ e => e) (fun b ps e => ⟨#[], by rw [e]; simp⟩) (fun m ⟨o, es, ep, ho, r⟩ => ⟨o, es, ep, hk _ o (fun z => (hf _ z).2.1 rfl) ho, r⟩)
      (fun b u e1 => (I.hok b u e1).stay (fun c v hc q => hk c v (fun z => by
        rcases hc with rfl | hc
        · rw [(hf _ z).1] at e1; cases e1
        · rw [(hf _ z).1] at hc; cases hc) q) (fun _ q => q) fun _ _ q => q) I.bare
  self := fun A i s Q E st h => wpAny_pyIter_zip st.1 h
end
end PD
set_option Elab.async false
set_option linter.all false
set_option maxRecDepth 100000
set_option maxHeartbeats 4000000
namespace PD
open PySem PySem.Spec PyProof.Rows L2

section
variable {prog : Program} {w : World} {A : Around} {E : Value → Shared → Prop} {s : Shared}
theorem meets_enumerate_new1 {v : Value} {o : Obj} {H : Heap → Prop} (B : Begins v o H) :
    Meets (Builtin.«enumerate.__new__» ⟨[.type "enumerate", v], []⟩) (fun _ R s => H s.heap ∧
      R (.ok (.ret (.ref (s.heap.push o).objs.size))) { s with heap := (s.heap.push o).push { cls := .type "enumerate", data := .fields #[.none, .bool false, .ref s.heap.objs.size, rawInt 0, .none, .none] } }) :=
  .of_wp fun prog w A R s h => by
    obtain ⟨hp, g, d, tk, os⟩ := s; obtain ⟨h1, h⟩ := h
    have hsub := sub_enumerate
    have q1 : ∀ {A' : Around} {E : Value → Shared → Prop} {Q : Value → Shared → Prop}, Q (.ref hp.objs.size) ⟨hp.push o, g, d, tk, os⟩ → wpAny (model prog w) A' (pyIter v) Q E ⟨hp, g, d, tk, os⟩ :=
      fun q => B.iter prog w _ _ ⟨hp, g, d, tk, os⟩ _ h1 q
    wp_walk using q1
    refine wpAny_stack_any fun st => wpAny_pure ?_
    split
    · rename_i c _ _ _ _ _
      cases (c == Value.type "enumerate")
      · wp_walk using q1
        exact ⟨_, rfl, h⟩
      · wp_walk using q1
        exact ⟨_, rfl, h⟩
    · wp_walk using q1
      exact ⟨_, rfl, h⟩
theorem enum_begins1 {v : Value} {o : Obj} {H : Heap → Prop} {Q : Value → Shared → Prop} (B : Begins v o H) (h1 : H s.heap)
    (h : ∀ h', IsEnum h' (s.heap.objs.size + 1) s.heap.objs.size 0 .none → h'.get? s.heap.objs.size = some o → h'.objs.size = s.heap.objs.size + 2 →
      (∀ b o, s.heap.get? b = some o → h'.get? b = some o) → Q (.ref (s.heap.objs.size + 1)) { s with heap := h' }) :
    wpAny (model prog w) A (call (.type "enumerate") [v]) Q E s := by
  refine callType_new F.called_enumerate (by decide) (F.typeCall_enumerate_1 _) (F.newCall_enumerate_1 _) (fun obj => F.args_object_init_2 obj _) F.entry_enumerate_new
    (meets_enumerate_new1 B) ⟨h1, ?_⟩
  have hz : (s.heap.push o).objs.size = s.heap.objs.size + 1 := Heap.size_push ..
  show _ ∧ _
  rw [hz]
  have he : IsEnum ((s.heap.push o).push { cls := .type "enumerate", data := .fields #[.none, .bool false, .ref s.heap.objs.size, rawInt 0, .none, .none] }) (s.heap.objs.size + 1) s.heap.objs.size 0 .none := by
    have := Heap.get?_push_size (s.heap.push o) (o := { cls := .type "enumerate", data := .fields #[.none, .bool false, .ref s.heap.objs.size, rawInt 0, .none, .none] }) rfl
    rw [hz] at this; exact this
  refine ⟨⟨_, he, rfl⟩, h _ he (Heap.get?_push_of_some _ (Heap.get?_push_size _ B.free)) (by rw [Heap.size_push, hz]) fun b o x => Heap.get?_push_of_some _ (Heap.get?_push_of_some _ x)⟩
end
/-- an iterator over the data ds, which stand in F -/
structure Wk (K : Frg) (F : Hp) (J : It) (ds : List PyData) : Prop where
  go : ∀ i H, Same F H → i < ds.length → J.go i H
  stop : ∀ H, Same F H → J.stop ds.length H
  yld : ∀ (n : Ent) (i : Nat) (F1 H1 : Hp) (σ : L2.St) (S : SS) (own : Nat → List Addr) (x : V) (H2 : Hp), Same F F1 → St K n F1 H1 σ S own → i < ds.length → J.yld i H1 x H2 → ∃ F2, Same F1 F2 ∧ St K n F2 H2 σ S own ∧ Same H1 H2 ∧ ∃ d, ds[i]? = some d ∧ Rp K F2 x d
abbrev EI := SS → Option (List PyData × SS)
def tI (K : Frg) (f : EI) : TI := fun σ H R => ∃ n F S own ds S', St K n F H σ S own ∧ f S = some (ds, S') ∧ ∀ F' H' own' J, Same F F' → St K n F' H' σ S' own' → Wk K F' J ds → R J H'
structure DI (X : Cx) (tg iter : Expr) (f : EI) : Prop where
  pi : PI X tg iter (tI X.K f)
section
variable {X : Cx} {tg e e2 : Expr} {p pa pb : Bool} {f fa fb : EV} {ga : EA} {pos : Pos} {K : Frg}
theorem _root_.L2.PI.imp {X : Cx} {tg it : Expr} {t t' : TI} (h : PI X tg it t) (i : ∀ σ H R, t' σ H R → t σ H R) : PI X tg it t' := ⟨fun pins s σ H R I q => h.run pins s σ H R I (i σ H R q)⟩
theorem wk_list {F : Hp} {a : Addr} {xs : List V} {ds : List PyData} (h : SqL K F a xs) (r : RpAll K F xs ds) : Wk K F (Itl K a) ds where
  go := fun i H e hi => ⟨xs, xs[i]'(by rw [r.length]; exact hi), Same.sqL e h, List.getElem?_eq_getElem _⟩
  stop := fun H e => ⟨xs, Same.sqL e h, Nat.le_of_eq r.length⟩
  yld := fun n i F1 H1 σ S own x H2 e st hi y => by
    obtain ⟨rfl, y⟩ := y
    obtain ⟨d, h1, h2⟩ := (r.mono e).get' (y xs (Same.sqL st.fh (Same.sqL e h)))
    exact ⟨F1, Same.refl F1, st, Same.refl _, d, h1, h2⟩
theorem wk_tup {F : Hp} {a : Addr} {xs : List V} {ds : List PyData} (h : SqT K F a xs) (r : RpAll K F xs ds) : Wk K F (Itt K a) ds where
  go := fun i H e hi => ⟨xs, xs[i]'(by rw [r.length]; exact hi), Same.sqT e h, List.getElem?_eq_getElem _⟩
  stop := fun H e => ⟨xs, Same.sqT e h, Nat.le_of_eq r.length⟩
  yld := fun n i F1 H1 σ S own x H2 e st hi y => by
    obtain ⟨rfl, y⟩ := y
    obtain ⟨d, h1, h2⟩ := (r.mono e).get' (y xs (Same.sqT st.fh (Same.sqT e h)))
    exact ⟨F1, Same.refl F1, st, Same.refl _, d, h1, h2⟩
def rangeD (lo : Int) (n : Nat) : List PyData := (List.range n).map fun (i : Nat) => .int (lo + (i : Int))
theorem wk_range {F : Hp} (lo : Int) (n : Nat) : Wk K F (Itr lo n) (rangeD lo n) where
  go := fun i H e hi => by
    show i < n
    simpa [rangeD] using hi
  stop := fun H e => by show n ≤ _; simp [rangeD]
  yld := fun m i F1 H1 σ S own x H2 e st hi y => by
    obtain ⟨rfl, rfl⟩ := y
    have hi : i < n := by simpa [rangeD] using hi
    exact ⟨F1, Same.refl F1, st, Same.refl _, .int (lo + i), by simp [rangeD, hi], .int _⟩
/-- over new tuples of data -/
theorem wk_new {F : Hp} {src : Hp → Prop} {VR : Nat → List V} {DR : Nat → List PyData} {m : Nat} (hs : ∀ H, Same F H → src H) (hr : ∀ i, i < m → RpAll K F (VR i) (DR i)) : Wk K F (ItN m src VR) ((List.range m).map fun i => .tuple (DR i)) where
  go := fun i H e hi => ⟨by simpa using hi, hs H e⟩
  stop := fun H e => ⟨by simp, hs H e⟩
  yld := fun n i F1 H1 σ S own x H2 e st hi y => by
    obtain ⟨T, rfl, hT, rfl⟩ := y
    have hi : i < m := by simpa using hi
    obtain ⟨s2, e1, e2⟩ := st.lay (o := .tup (VR i)) hT
    exact ⟨_, e1, s2, e2, .tuple (DR i), by simp [hi], .tup upd_same (((hr i hi).mono e).mono e1)⟩

/-! ### what is walked -/
def seqD : OV → Option (List PyData)
  | .fz (.list ds) => some ds
  | .fz (.tuple ds) => some ds
  | _ => none
theorem RO.seq {F H : Hp} {as : List Addr} {v : V} {o : OV} {ds : List PyData} (h : RO K F H as v o) (hd : seqD o = some ds) : ∃ a t xs, v = .ref a ∧ SqA K F t a xs ∧ RpAll K F xs ds := by
  unfold seqD at hd
  split at hd
  · cases hd
    cases h.rp with | lst h' r => exact ⟨_, false, _, rfl, SqL.of h', r⟩
  · cases hd
    cases h.rp with | tup h' r => exact ⟨_, true, _, rfl, .inl (.inl h'), r⟩
  · cases hd
def iSeq (f : EV) : EI := fun S => match f S with
  | some (o, S1) => (match seqD o with
    | some ds => some (ds, S1)
    | none => none)
  | none => none
theorem i_seq (h : DX X p e f) : DI X tg e (iSeq f) := ⟨⟨fun pins s σ H R I q => by
  have key : ∀ (n : Ent) (F : Hp) (S : SS) (own : Nat → List Addr) (ds : List PyData) (S' : SS), St X.K n F H σ S own → iSeq f S = some (ds, S') → (∀ F' H' own' J, Same F F' → St X.K n F' H' σ S' own' → Wk X.K F' J ds → R J H') →
      (∃ ds', iSeq f S = some (ds', S') ∧ ∃ o, f S = some (o, S') ∧ seqD o = some ds') → wpAny (model X.prog X.w) X.A (eval e X.env) (fun v s1 => wpAny (model X.prog X.w) X.A (pyIter v) (PIE X pins σ tg R) X.xe s1) X.xe s := by
    rintro n F S own ds S' st hf q ⟨ds', hf', o, ho, hd⟩
    rw [hf] at hf'
    cases hf'
    cases o with
    | fz d =>
      cases d with
      | list es =>
        cases hd
        refine (pi_list (tg := tg) h.pe).run pins s σ H R I ⟨n, F, S, own, _, S', st, ho, fun F' H' own' v as e st' r pu => ?_⟩
        cases r.rp with
        | lst hl rr => exact ⟨_, rfl, ⟨_, SqL.of (st'.fh _ _ hl)⟩, q F' H' own' _ e st' (wk_list (SqL.of hl) rr)⟩
      | tuple es =>
        cases hd
        refine (pi_tup (tg := tg) h.pe).run pins s σ H R I ⟨n, F, S, own, _, S', st, ho, fun F' H' own' v as e st' r pu => ?_⟩
        cases r.rp with
        | tup hl rr => exact ⟨_, rfl, ⟨_, Same.sqT st'.fh (.inl (.inl hl))⟩, q F' H' own' _ e st' (wk_tup (.inl (.inl hl)) rr)⟩
      | _ => cases hd
    | _ => cases hd
  obtain ⟨n, F, S, own, ds, S', st, hf, q⟩ := q
  refine key n F S own ds S' st hf q ⟨ds, hf, ?_⟩
  unfold iSeq at hf
  split at hf
  · rename_i o S1 h1
    split at hf
    · rename_i ds' h2
      cases hf
      exact ⟨o, h1, h2⟩
    · cases hf
  · cases hf⟩⟩
def okR (i : Int) : Bool := decide (-(2 ^ 62) ≤ i ∧ i < 2 ^ 62)
def iRange1 (f : EV) : EI := fun S => match f S with
  | some (.fz (.int j), S1) => if okR j then some (rangeD 0 j.toNat, S1) else none
  | _ => none
theorem i_range1 {p' : Pos} (hg : Gl X "range") (hm : X.mg "range" = none) (h : DX X p e f) (hs : starEach [e] X.env = [(false, eval e X.env)] := by rfl) : DI X tg (.Call (.Name "range" p') [e] [] pos) (iRange1 f) :=
  ⟨(pi_range1 hg hm (pa_cons h.pe pa_nil hs) hs).imp fun σ H R ⟨n, F, S, own, ds, S', st, hf, q⟩ => by
    unfold iRange1 at hf
    split at hf
    · rename_i j S1 h1
      split at hf
      · rename_i hj
        cases hf
        obtain ⟨z1, z2⟩ := of_decide_eq_true hj
        refine ⟨n, F, S, own, _, S', st, h1, fun F' H' own' v as e st' r pu => ?_⟩
        cases r.int_v
        exact ⟨j, rfl, z1, z2, q F' H' own' _ e st' (wk_range 0 j.toNat)⟩
      · cases hf
    · cases hf⟩
def iRange2 (fa fb : EV) : EI := fun S => match fa S with
  | some (.fz (.int i), S1) => (match fb S1 with
    | some (.fz (.int j), S2) => if okR i && okR j then some (rangeD i (j - i).toNat, S2) else none
    | _ => none)
  | _ => none
theorem i_range2 {p' : Pos} (hg : Gl X "range") (hm : X.mg "range" = none) (ha : DX X pa e fa) (hb : DX X pb e2 fb) (hs : starEach [e, e2] X.env = [(false, eval e X.env), (false, eval e2 X.env)] := by rfl) (hs2 : starEach [e2] X.env = [(false, eval e2 X.env)] := by rfl) :
    DI X tg (.Call (.Name "range" p') [e, e2] [] pos) (iRange2 fa fb) :=
  ⟨(pi_range2 hg hm (pa_cons ha.pe (pa_cons hb.pe pa_nil hs2) (by rw [hs, hs2])) hs hs2).imp fun σ H R ⟨n, F, S, own, ds, S', st, hf, q⟩ => by
    unfold iRange2 at hf
    split at hf
    · rename_i i S1 h1
      split at hf
      · rename_i j S2 h2
        split at hf
        · rename_i hj
          cases hf
          simp only [Bool.and_eq_true] at hj
          obtain ⟨z1, z2⟩ := of_decide_eq_true hj.1
          obtain ⟨z3, z4⟩ := of_decide_eq_true hj.2
          refine ⟨n, F, S, own, _, S1, st, h1, fun F' H' own' v as e st' r pu => ?_⟩
          cases r.int_v
          refine ⟨n, F', S1, own', _, S', st', h2, fun F2 H2 own2 v as e2 st2 r2 pu2 => ?_⟩
          cases r2.int_v
          exact ⟨i, j, rfl, ⟨z1, z2, z3, z4⟩, q F2 H2 own2 _ (e.trans e2) st2 (wk_range i (j - i).toNat)⟩
        · cases hf
      · cases hf
    · cases hf⟩
/-- enumerate(xs) -/
def enumD (ds : List PyData) : List PyData := (List.range ds.length).map fun (i : Nat) => .tuple [.int (0 + (i : Int)), ds.getD i .none]
def iEnum' (f : EV) : EI := fun S => match f S with
  | some (o, S1) => (match seqD o with
    | some ds => some (enumD ds, S1)
    | none => none)
  | none => none
theorem RpAll.getD {F : Hp} {xs : List V} {ds : List PyData} (h : RpAll K F xs ds) (i : Nat) : Rp K F (xs.getD i .non) (ds.getD i .none) := by
  cases e : ds[i]? with
  | none =>
    have : xs[i]? = none := by
      rw [List.getElem?_eq_none_iff] at e ⊢
      rw [h.length]; exact e
    rw [List.getD_eq_getElem?_getD, List.getD_eq_getElem?_getD, e, this]
    exact .non
  | some d =>
    obtain ⟨v, h1, h2⟩ := h.get e
    rw [List.getD_eq_getElem?_getD, List.getD_eq_getElem?_getD, e, h1]
    exact h2
theorem i_enum {p' tpos : Pos} {elts : List Expr} {kk : Nat} (hg : Gl X "enumerate") (hm : X.mg "enumerate" = none) (h : DX X p e f) (hs : starEach [e] X.env = [(false, eval e X.env)] := by rfl) : DI X (.Tuple elts kk tpos) (.Call (.Name "enumerate" p') [e] [] pos) (iEnum' f) :=
  ⟨⟨fun pins s σ H R I q => by
    obtain ⟨n, F, S, own, ds, S', st, hf, q⟩ := q
    unfold iEnum' at hf
    split at hf
    · rename_i o S1 h1
      split at hf
      · rename_i es h2
        cases hf
        refine Call_ (ld_blt I hg hm boot_enumerate (PyProof.Rows.callWith_type1 (thn ((pa_cons h.pe pa_nil hs).run pos pins s σ H (fun vs H1 => ∃ F' own' v as, vs = [v] ∧ Same F F' ∧ St X.K n F' H1 σ S' own' ∧ RO X.K F' H1 as v o) I
          ⟨n, F, S, own, o, S', st, h1, fun F' H' own' v as e st' r pu => ⟨F', own', v, as, rfl, e, st', r⟩⟩) fun us s1 ⟨vs, H1, I1, r1, q1⟩ => ?_) hs rfl))
        obtain ⟨F', own', v, as, rfl, e', st', ro⟩ := q1
        obtain ⟨a, t, xs, rfl, hsq, rr⟩ := ro.seq h2
        cases r1 with
        | cons r rn =>
          cases rn
          cases r
          have hsH := hsq.mono st'.fh
          obtain ⟨its, rv, ob, hlt⟩ := inv_sq I1 hsH
          refine enum_begins1 (sq_begins (t := t) (a := a) its.toArray) ob fun h' he hit hsz hk => wpAny_pyIter_enum he ?_
          have I2 : L2.Inv X pins σ H1 { s1 with heap := h' } := I1.kept (t' := s1.toks) hk
          refine ⟨s1.heap.objs.size + 1, [s1.heap.objs.size + 1, s1.heap.objs.size], _, _, H1, rfl, I2, turn_enumS (t := t) (a := a) (xs := xs) (it := s1.heap.objs.size) 0 (Nat.succ_ne_self _), ⟨⟨.none, by simpa using he⟩, sq_start hit⟩, fun b hb => ?_, ?_⟩
          · have e' : b = s1.heap.objs.size + 1 ∨ b = s1.heap.objs.size := by simpa using hb
            have hle : s1.heap.objs.size ≤ b := by
              rcases e' with z | z
              · rw [z]; exact Nat.le_add_right _ _
              · rw [z]; exact Nat.le_refl _
            exact I1.fpOk hle (I1.hok.fresh hle)
          · have W := wk_new (K := X.K) (F := F') (src := fun H => SqA X.K H t a xs) (VR := fun (i : Nat) => [.int (0 + (i : Int)), xs.getD i .non]) (DR := fun (i : Nat) => [.int (0 + (i : Int)), es.getD i .none]) (m := xs.length) (fun H e => hsq.mono e)
              (fun i hi => .cons (.int _) (.cons (rr.getD i) .nil))
            rw [rr.length] at W
            have := q F' H1 own' _ e' st' W
            rw [← rr.length] at this
            exact this
      · cases hf
    · cases hf⟩⟩
end
end PD
set_option Elab.async false
set_option linter.all false
set_option maxRecDepth 100000
set_option maxHeartbeats 4000000
namespace PD
open PySem PySem.Spec PyProof.Rows L2

section
variable {X : Cx} {tg e e2 c : Expr} {p pa pb pc : Bool} {f fa fb : EV} {ga : EA} {pos : Pos} {K : Frg} {fi fj : EI} {gv gv2 : GV} {is js : List Nat} {g : SM} {ft ft2 : EB} {body : List Stmt}
/-- zip(xs, ys) -/
def zipD (ds es : List PyData) : List PyData := (List.range (min ds.length es.length)).map fun (i : Nat) => .tuple [ds.getD i .none, es.getD i .none]
def iZip (pb : Bool) (fa fb : EV) : EI := fun S => match fa S with
  | some (x, S1) => if pb || x.isFz then (match fb S1 with
    | some (y, S2) => (match seqD x, seqD y with
      | some ds, some es => some (zipD ds es, S2)
      | _, _ => none)
    | none => none) else none
  | none => none
theorem i_zip {p' tpos : Pos} {elts : List Expr} {kk : Nat} (hg : Gl X "zip") (hm : X.mg "zip" = none) (ha : DX X pa e fa) (hb : DX X pb e2 fb) (hs : starEach [e, e2] X.env = [(false, eval e X.env), (false, eval e2 X.env)] := by rfl) (hs2 : starEach [e2] X.env = [(false, eval e2 X.env)] := by rfl) :
    DI X (.Tuple elts kk tpos) (.Call (.Name "zip" p') [e, e2] [] pos) (iZip pb fa fb) :=
  ⟨⟨fun pins s σ H R I q => by
    obtain ⟨n, F, S, own, ds, S', st, hf, q⟩ := q
    unfold iZip at hf
    split at hf
    · rename_i o1 S1 h1
      split at hf
      · rename_i hx
        split at hf
        · rename_i o2 S2 h2
          split at hf
          · rename_i es1 es2 k1 k2
            cases hf
            refine Call_ (ld_blt I hg hm boot_zip (PyProof.Rows.callWith_type1 (thn ((pa_cons ha.pe (pa_cons hb.pe pa_nil hs2) (by rw [hs, hs2])).run pos pins s σ H
                (fun vs H1 => ∃ F' own' v v2 as bs, vs = [v, v2] ∧ Same F F' ∧ St X.K n F' H1 σ S' own' ∧ RO X.K F' H1 as v o1 ∧ RO X.K F' H1 bs v2 o2) I
              ⟨n, F, S, own, o1, S1, st, h1, fun F1 H1 own1 v as e1 st1 r1 pu1 => ⟨n, F1, S1, own1, o2, S', st1, h2, fun F2 H2 own2 v2 bs e2 st2 r2 pu2 => ⟨F2, own2, v, v2, as, bs, rfl, e1.trans e2, st2, r1.persist (n := n) (σ := σ) e2 hx pu2, r2⟩⟩⟩) fun us s1 ⟨vs, H1, I1, r1, q1⟩ => ?_) (by rw [hs, hs2]) (by rw [hs2]; rfl)))
            obtain ⟨F', own', v, v2, as, bs, rfl, e', st', ro1, ro2⟩ := q1
            obtain ⟨a, t1, xs, rfl, hsq1, rr1⟩ := ro1.seq k1
            obtain ⟨b, t2, ys, rfl, hsq2, rr2⟩ := ro2.seq k2
            cases r1 with
            | cons r rn =>
              cases rn with
              | cons r' rn =>
                cases rn
                cases r
                cases r'
                have hs1 := hsq1.mono st'.fh
                have hs2 := hsq2.mono st'.fh
                obtain ⟨its, rv, ob, hlt⟩ := inv_sq I1 hs1
                obtain ⟨jts, rv2, ob2, hlt2⟩ := inv_sq I1 hs2
                refine zip_begins2 (sq_begins (t := t1) (a := a) its.toArray) (sq_begins (t := t2) (a := b) jts.toArray) ob ob2 fun h' hz hTI hTO hi1 hi2 hsz hk => wpAny_pyIter_zip hz ?_
                have I2 : L2.Inv X pins σ H1 { s1 with heap := h' } := I1.kept (t' := s1.toks) hk
                refine ⟨s1.heap.objs.size + 4, [s1.heap.objs.size + 4, s1.heap.objs.size + 2, s1.heap.objs.size + 3, s1.heap.objs.size, s1.heap.objs.size + 1], _, _, H1, rfl, I2, turn_zip2S (t1 := t1) (t2 := t2) (a := a) (b := b) (xs := xs) (ys := ys) s1.heap.objs.size rfl rfl rfl rfl rfl,
                  ⟨hz, hTI, ⟨_, _, hTO⟩, sq_start hi1, sq_start hi2⟩, fun c hb => ?_, ?_⟩
                · have hle : s1.heap.objs.size ≤ c := by
                    have e' : c = s1.heap.objs.size + 4 ∨ c = s1.heap.objs.size + 2 ∨ c = s1.heap.objs.size + 3 ∨ c = s1.heap.objs.size ∨ c = s1.heap.objs.size + 1 := by simpa using hb
                    rcases e' with z | z | z | z | z <;> rw [z] <;> first | exact Nat.le_add_right _ _ | exact Nat.le_refl _
                  exact I1.fpOk hle (I1.hok.fresh hle)
                · have W := wk_new (K := X.K) (F := F') (src := fun H => SqA X.K H t1 a xs ∧ SqA X.K H t2 b ys) (VR := fun (i : Nat) => [xs.getD i .non, ys.getD i .non]) (DR := fun (i : Nat) => [es1.getD i .none, es2.getD i .none]) (m := min xs.length ys.length)
                    (fun H e => ⟨hsq1.mono e, hsq2.mono e⟩) (fun i hi => .cons (rr1.getD i) (.cons (rr2.getD i) .nil))
                  rw [rr1.length, rr2.length] at W
                  have := q F' H1 own' _ e' st' W
                  rw [← rr1.length, ← rr2.length] at this
                  exact this
          · cases hf
        · cases hf
      · cases hf
    · cases hf⟩⟩

/-! ### for -/
def wipeS (is : List Nat) (S : SS) : SS := is.foldl (fun S i => S.set i .un) S
theorem St.wipe1 {n : Ent} {F H : Hp} {σ : L2.St} {S : SS} {own : Nat → List Addr} (s : St K n F H σ S own) (i : Nat) : St K n F H σ (S.set i .un) (fun j => if j = i then [] else own j) := by
  by_cases hi : i < σ.length
  · have s0 := s.drop (i := i) (σ[i])
    rwa [show σ.set i σ[i] = σ from List.set_getElem_self hi] at s0
  · have hS : S.set i .un = S := List.set_eq_of_length_le (by rw [s.len]; omega)
    have hown : own i = [] := s.un i (fun o q => by
      have := (List.getElem?_eq_some_iff.mp q).1
      rw [s.len] at this; omega) (fun o q => by
      have := (List.getElem?_eq_some_iff.mp q).1
      rw [s.len] at this; omega)
    rw [hS]
    have : (fun j => if j = i then [] else own j) = own := by
      funext j
      by_cases z : j = i
      · rw [if_pos z, z, hown]
      · rw [if_neg z]
    rw [this]
    exact s
theorem St.wipe {n : Ent} {F H : Hp} {σ : L2.St} : ∀ (is : List Nat) {S : SS} {own : Nat → List Addr}, St K n F H σ S own → ∃ own', St K n F H σ (wipeS is S) own' ∧ ∀ j a, a ∈ own' j → a ∈ own j
  | [], S, own, s => ⟨own, s, fun _ _ h => h⟩
  | i :: is, S, own, s => by
    obtain ⟨own', s', k⟩ := St.wipe is (s.wipe1 i)
    refine ⟨own', s', fun j a h => ?_⟩
    have := k j a h
    by_cases z : j = i
    · rw [if_pos z] at this; cases this
    · rw [if_neg z] at this; exact this
def forL (is : List Nat) (gv : GV) (g : SM) : List PyData → SS → Option (Fl × SS)
  | [], S => some (.nx, S)
  | d :: ds, S => match gv d S with
    | some S1 => (match g S1 with
      | some (.nx, S2) => forL is gv g ds (wipeS is S2)
      | some (.ct, S2) => forL is gv g ds (wipeS is S2)
      | some (.bk, S2) => some (.nx, S2)
      | some (.rt o, S2) => some (.rt o, S2)
      | none => none)
    | none => none
def gFor (is : List Nat) (fi : EI) (gv : GV) (g : SM) : SM := fun S => match fi S with
  | some (ds, S1) => forL is gv g ds (wipeS is S1)
  | none => none
theorem s_for (is : List Nat) (hp : PassesOwn (model X.prog X.w) X.A X.env X.xe) (hc : X.calm = true) (hi : DI X tg e fi) (hg : DG X js tg gv) (hb : DSs X body g) (hs : ∀ x, foldedSetIterable e X.env x = pure x := by intro _; rfl) :
    DS X (.For tg e body [] pos) (gFor is fi gv g) := ⟨(ps_for hp hc hi.pi hg.pg hb.ps hs).imp fun D σ H ⟨n, F, S, own, fl, S', st, hh, q⟩ => by
  unfold gFor at hh
  split at hh
  · rename_i ds S1 h1
    refine ⟨n, F, S, own, ds, S1, st, h1, fun F1 H1 own1 J e1 st1 W => ?_⟩
    obtain ⟨own2, st2, _⟩ := st1.wipe is
    refine ⟨fun i m σ H => m = ds.length - i ∧ i ≤ ds.length ∧ ∃ F' S2 own', Same F1 F' ∧ St X.K n F' H σ S2 own' ∧ forL is gv g (ds.drop i) S2 = some (fl, S'), ⟨_, rfl, Nat.zero_le _, F1, _, own2, Same.refl F1, st2, by simpa using hh⟩, ?_⟩
    rintro i m σ H ⟨rfl, hi, F2, S2, own3, e2, st3, h3⟩
    by_cases hlt : i < ds.length
    · refine .inr ⟨W.go i H (fun a o q => st3.fh a o (e2 a o q)) hlt, ?_⟩
      rw [List.drop_eq_getElem_cons hlt] at h3
      unfold forL at h3
      split at h3
      · rename_i S4 h4
        refine ⟨fun σ' H' => ∃ F' S5 own', Same F1 F' ∧ St X.K n F' H' σ' S5 own' ∧ forL is gv g (ds.drop (i + 1)) S5 = some (fl, S'), fun σ' H' ⟨F', S5, own', a1, a2, a3⟩ => ⟨ds.length - (i + 1), by omega, rfl, hlt, F', S5, own', a1, a2, a3⟩, fun x H2 hy => ?_⟩
        obtain ⟨F5, e5, st5, _, d, hd, rd⟩ := W.yld n i F2 H σ S2 own3 x H2 e2 st3 hlt hy
        have hd' : ds[i] = d := by rw [List.getElem?_eq_getElem hlt] at hd; exact Option.some.inj hd
        rw [hd'] at h4
        refine ⟨n, F5, S2, own3, d, S4, st5, rd, h4, fun F6 H6 σ6 own6 e6 st6 _ => ?_⟩
        have eF : Same F1 F6 := (e2.trans e5).trans e6
        split at h3
        · rename_i S7 h7
          refine ⟨n, F6, S4, own6, .nx, S7, st6, h7, fun F8 H8 σ8 own8 e8 st8 => ?_⟩
          obtain ⟨own9, st9, _⟩ := st8.wipe is
          exact ⟨F8, _, own9, eF.trans e8, st9, h3⟩
        · rename_i S7 h7
          refine ⟨n, F6, S4, own6, .ct, S7, st6, h7, fun F8 H8 σ8 own8 e8 st8 => ?_⟩
          obtain ⟨own9, st9, _⟩ := st8.wipe is
          exact ⟨F8, _, own9, eF.trans e8, st9, h3⟩
        · rename_i S7 h7
          cases h3
          exact ⟨n, F6, S4, own6, .bk, S', st6, h7, fun F8 H8 σ8 own8 e8 st8 => q F8 H8 σ8 own8 ((e1.trans eF).trans e8) st8⟩
        · rename_i o S7 h7
          cases h3
          exact ⟨n, F6, S4, own6, .rt o, S', st6, h7, fun F8 H8 σ8 own8 v as e8 st8 t8 => q F8 H8 σ8 own8 v as ((e1.trans eF).trans e8) st8 t8⟩
        · cases h3
      · cases h3
    · have e0 : i = ds.length := by omega
      subst e0
      rw [List.drop_length] at h3
      cases h3
      exact .inl ⟨W.stop H (fun a o q => st3.fh a o (e2 a o q)), q F2 H σ own3 (e1.trans e2) st3⟩
  · cases hh⟩

/-! ### while -/
def whileN (is : List Nat) (ft : EB) (g : SM) : Nat → SS → Option (Fl × SS)
  | 0, _ => none
  | k + 1, S => match ft S with
    | some (true, S1) => (match g S1 with
      | some (.nx, S2) => whileN is ft g k (wipeS is S2)
      | some (.ct, S2) => whileN is ft g k (wipeS is S2)
      | some (.bk, S2) => some (.nx, S2)
      | some (.rt o, S2) => some (.rt o, S2)
      | none => none)
    | some (false, S1) => some (.nx, S1)
    | none => none
theorem whileN_mono {r : Fl × SS} : ∀ {k m : Nat} {S : SS}, whileN is ft g k S = some r → k ≤ m → whileN is ft g m S = some r
  | 0, _, _, h, _ => by cases h
  | k + 1, 0, _, _, hm => by omega
  | k + 1, m + 1, S, h, hm => by
    cases h1 : ft S with
    | none => simp [whileN, h1] at h
    | some bS =>
      obtain ⟨b, S1⟩ := bS
      cases b with
      | false => simpa [whileN, h1] using h
      | true =>
        cases h2 : g S1 with
        | none => simp [whileN, h1, h2] at h
        | some fS =>
          obtain ⟨fl, S2⟩ := fS
          cases fl with
          | nx =>
            simp only [whileN, h1, h2] at h ⊢
            exact whileN_mono h (by omega)
          | ct =>
            simp only [whileN, h1, h2] at h ⊢
            exact whileN_mono h (by omega)
          | bk => simpa [whileN, h1, h2] using h
          | rt o => simpa [whileN, h1, h2] using h
open Classical in
noncomputable def gWhile (is : List Nat) (ft : EB) (g : SM) : SM := fun S => if h : ∃ (k : Nat) (r : Fl × SS), whileN is ft g k (wipeS is S) = some r then some h.choose_spec.choose else none
theorem gWhile_of {S : SS} {k : Nat} {r : Fl × SS} (h : whileN is ft g k (wipeS is S) = some r) : gWhile is ft g S = some r := by
  have hex : ∃ (k : Nat) (r : Fl × SS), whileN is ft g k (wipeS is S) = some r := ⟨k, r, h⟩
  unfold gWhile
  rw [dif_pos hex]
  have h2 := hex.choose_spec.choose_spec
  have h3 := whileN_mono h (Nat.le_max_left k hex.choose)
  have h4 := whileN_mono h2 (Nat.le_max_right k hex.choose)
  rw [h3] at h4
  exact congrArg some (Option.some.inj h4).symm
theorem s_while (is : List Nat) (hp : PassesOwn (model X.prog X.w) X.A X.env X.xe) (hc : DT X p c ft) (hb : DSs X body g) : DS X (.While c body [] pos) (gWhile is ft g) := ⟨(ps_while hp hc.pt hb.ps).imp fun D σ H ⟨n, F, S, own, fl, S', st, hh, q⟩ => by
  have hex : ∃ (k : Nat), whileN is ft g k (wipeS is S) = some (fl, S') := by
    unfold gWhile at hh
    split at hh
    · rename_i h
      refine ⟨h.choose, ?_⟩
      rw [h.choose_spec.choose_spec]
      exact hh
    · cases hh
  obtain ⟨k, hk⟩ := hex
  obtain ⟨own0, st0, _⟩ := st.wipe is
  refine ⟨fun m σ H => ∃ F' S2 own', Same F F' ∧ St X.K n F' H σ S2 own' ∧ whileN is ft g m S2 = some (fl, S'), ⟨k, F, _, own0, Same.refl F, st0, hk⟩, ?_⟩
  rintro m σ H ⟨F2, S2, own2, e2, st2, h2⟩
  cases m with
  | zero => cases h2
  | succ m =>
    unfold whileN at h2
    split at h2
    · rename_i S3 h3
      refine ⟨n, F2, S2, own2, true, S3, st2, h3, fun F4 H4 own4 e4 st4 pu => ?_⟩
      show if true = true then _ else _
      rw [if_pos rfl]
      refine ⟨fun σ' H' => ∃ F' S5 own', Same F F' ∧ St X.K n F' H' σ' S5 own' ∧ whileN is ft g m S5 = some (fl, S'), fun σ' H' h => ⟨m, Nat.lt_succ_self m, h⟩, ?_⟩
      have eF := e2.trans e4
      split at h2
      · rename_i S7 h7
        refine ⟨n, F4, S3, own4, .nx, S7, st4, h7, fun F8 H8 σ8 own8 e8 st8 => ?_⟩
        obtain ⟨own9, st9, _⟩ := st8.wipe is
        exact ⟨F8, _, own9, eF.trans e8, st9, h2⟩
      · rename_i S7 h7
        refine ⟨n, F4, S3, own4, .ct, S7, st4, h7, fun F8 H8 σ8 own8 e8 st8 => ?_⟩
        obtain ⟨own9, st9, _⟩ := st8.wipe is
        exact ⟨F8, _, own9, eF.trans e8, st9, h2⟩
      · rename_i S7 h7
        cases h2
        exact ⟨n, F4, S3, own4, .bk, S', st4, h7, fun F8 H8 σ8 own8 e8 st8 => q F8 H8 σ8 own8 (eF.trans e8) st8⟩
      · rename_i o S7 h7
        cases h2
        exact ⟨n, F4, S3, own4, .rt o, S', st4, h7, fun F8 H8 σ8 own8 v as e8 st8 t8 => q F8 H8 σ8 own8 v as (eF.trans e8) st8 t8⟩
      · cases h2
    · rename_i S3 h3
      cases h2
      refine ⟨n, F2, S2, own2, false, S', st2, h3, fun F4 H4 own4 e4 st4 pu => ?_⟩
      show if false = true then _ else _
      rw [if_neg Bool.false_ne_true]
      exact q F4 H4 σ own4 (e2.trans e4) st4
    · cases h2⟩

/-! ### list comprehensions -/
structure DTs (X : Cx) (p : Bool) (cs : List Expr) (f : EB) : Prop where
  pt : PTs X cs (tB' X.K p f)
def bYes : EB := fun S => some (true, S)
theorem _root_.L2.PTs.imp {X : Cx} {e : List Expr} {t t' : TT} (h : PTs X e t) (i : ∀ σ H Q, t' σ H Q → t σ H Q) : PTs X e t' := ⟨fun pins s σ H Q I q => h.run pins s σ H Q I (i σ H Q q)⟩
theorem ts_nil : DTs X true [] bYes := ⟨pts_nil.imp fun σ H Q ⟨n, F, S, own, b, S', st, hf, q⟩ => by
  cases hf
  exact q F H own (Same.refl F) st .refl⟩
theorem ts_one (h : DT X p c ft) : DTs X p [c] ft := ⟨pts_one h.pt⟩
def lcL (vs : List Nat) (gv : GV) (ft : EB) (f : EV) : List PyData → List OV → SS → Option (List OV × SS)
  | [], acc, S => some (acc, S)
  | d :: ds, acc, S => match gv d (wipeS vs S) with
    | some S1 => (match ft S1 with
      | some (true, S2) => (match f S2 with
        | some (o, S3) => if acc.length < sizeLine then lcL vs gv ft f ds (acc ++ [o]) (wipeS vs S3) else none
        | none => none)
      | some (false, S2) => lcL vs gv ft f ds acc (wipeS vs S2)
      | none => none)
    | none => none
def eLc (vs : List Nat) (fi : EI) (gv : GV) (ft : EB) (f : EV) : EV := fun S => match fi S with
  | some (ds, S1) => (match lcL vs gv ft f ds [] S1 with
    | some (acc, S2) => some (.ol acc, S2)
    | none => none)
  | none => none
/-- within a block: the slots vs are none -/
theorem wipe_get {σ : L2.St} {j : Nat} {x : Option V} : ∀ {vs : List Nat}, j ∉ vs → (wipe σ vs)[j]? = σ[j]?
  | [], _ => rfl
  | v :: vs, h => by
    unfold wipe
    simp only [List.mem_cons, not_or] at h
    rw [List.getElem?_set_ne (Ne.symm h.1)]
    exact wipe_get (x := x) h.2
theorem wipeS_length : ∀ (vs : List Nat) (S : SS), (wipeS vs S).length = S.length
  | [], _ => rfl
  | v :: vs, S => by
    show (wipeS vs (S.set v .un)).length = _
    rw [wipeS_length vs]; simp
theorem wipeS_in : ∀ {vs : List Nat} {S : SS} {j : Nat}, (j ∈ vs ∨ S[j]? = some .un) → (wipeS vs S)[j]? = some .un ∨ (wipeS vs S)[j]? = none
  | [], S, j, h => by
    rcases h with h | h
    · cases h
    · exact .inl h
  | v :: vs, S, j, h => by
    show (wipeS vs (S.set v .un))[j]? = some .un ∨ (wipeS vs (S.set v .un))[j]? = none
    by_cases hj : j = v
    · subst hj
      by_cases hl : j < S.length
      · exact wipeS_in (.inr (List.getElem?_set_self hl))
      · right
        rw [List.getElem?_eq_none_iff, wipeS_length]
        simpa using hl
    · rcases h with h | h
      · rcases List.mem_cons.mp h with h | h
        · exact absurd h hj
        · exact wipeS_in (.inl h)
      · exact wipeS_in (.inr (by rw [List.getElem?_set_ne (Ne.symm hj)]; exact h))
/-- the slots of σ in a block, and back: only slots out of vs are told -/
theorem St.slots {n : Ent} {F H : Hp} {σ σ' : L2.St} {S : SS} {own : Nat → List Addr} (s : St K n F H σ S own) (hl : σ'.length = σ.length) (vs : List Nat) (hu : ∀ j ∈ vs, S[j]? = some .un ∨ S[j]? = none) (h : ∀ j, j ∉ vs → σ'[j]? = σ[j]?) : St K n F H σ' S own := by
  refine ⟨s.fh, s.rh, s.f0, s.good, s.len.trans hl.symm, fun i o q => ?_, fun i o q => ?_, s.un, s.nod, s.dis, s.out⟩
  · have hi : i ∉ vs := fun z => by rcases hu i z with w | w <;> (rw [w] at q; cases q)
    rw [h i hi]; exact s.slot i o q
  · have hi : i ∉ vs := fun z => by rcases hu i z with w | w <;> (rw [w] at q; cases q)
    rw [h i hi]; exact s.slio i o q
theorem St.wipeV {n : Ent} {F H : Hp} {σ σ' : L2.St} {S : SS} {own : Nat → List Addr} (s : St K n F H σ S own) (vs : List Nat) (hl : σ'.length = σ.length) (h : ∀ j, j ∉ vs → σ'[j]? = σ[j]?) : ∃ own', St K n F H σ' (wipeS vs S) own' ∧ ∀ j a, a ∈ own' j → a ∈ own j := by
  obtain ⟨own', s', k⟩ := s.wipe vs
  exact ⟨own', s'.slots hl vs (fun j hj => wipeS_in (.inl hj)) h, k⟩
theorem wipe_eq {σ σ2 : L2.St} {vs : List Nat} (hl : σ2.length = σ.length) (h : ∀ j, j ∉ vs → σ2[j]? = (wipe σ vs)[j]?) : wipe σ2 vs = wipe σ vs := by
  apply List.ext_getElem?
  intro j
  by_cases hj : j ∈ vs
  · have key : ∀ {ρ : L2.St} {vs : List Nat}, j ∈ vs → (wipe ρ vs)[j]? = if j < ρ.length then some none else none := by
      intro ρ vs
      induction vs with
      | nil => intro h; cases h
      | cons v vs ih =>
        intro h
        unfold wipe
        by_cases z : v = j
        · subst z
          by_cases hj : v < ρ.length
          · rw [List.getElem?_set_self (by rw [wipe_length]; exact hj), if_pos hj]
          · rw [List.getElem?_eq_none (by rw [List.length_set, wipe_length]; omega), if_neg hj]
        · rw [List.getElem?_set_ne z]
          rcases List.mem_cons.mp h with h | h
          · exact absurd h.symm z
          · exact ih h
    rw [key hj, key hj, hl]
  · rw [wipe_get (x := none) hj, h j hj]
end
end PD
set_option Elab.async false
set_option linter.all false
set_option maxRecDepth 100000
set_option maxHeartbeats 4000000
namespace PD
open PySem PySem.Spec PyProof.Rows L2

section
variable {X : Cx} {tg tg1 e e2 c elt iter iter1 : Expr} {ifs ifs1 : List Expr} {p pa pb pc pe' : Bool} {f fa fb : EV} {pos : Pos} {K : Frg} {fi fj : EI} {gv gv2 : GV} {is js : List Nat} {g : SM} {ft ft2 : EB}
theorem St.upd {n : Ent} {F H : Hp} {σ : L2.St} {S : SS} {own : Nat → List Addr} {D : Addr} {o : HO} (s : St K n F H σ S own) (hF : F D = none) (hR : n.R D = none) (ho : ∀ i, D ∉ own i) : St K n F (L2.upd H D o) σ S own := by
  have key : ∀ i, ∀ a ∈ own i, L2.upd H D o a = H a := fun i a h => upd_ne fun z => ho i (z ▸ h)
  refine ⟨fun a u q => ?_, fun a u q => ?_, s.f0, s.good, s.len, fun i u q => ?_, fun i u q => ?_, s.un, s.nod, s.dis, s.out⟩
  · rw [upd_ne (ne_of_none q hF)]; exact s.fh a u q
  · rw [upd_ne (ne_of_none q hR)]; exact s.rh a u q
  · obtain ⟨v, h1, h2⟩ := s.slot i u q
    exact ⟨v, h1, h2.frame (Same.refl F) (key i)⟩
  · obtain ⟨h1, h2⟩ := s.slio i u q
    exact ⟨h1, h2.frame (Same.refl F) (key i)⟩
theorem Tmp.sub {n : Ent} {F H : Hp} {own own' : Nat → List Addr} {as : List Addr} {v : V} {x : OV} (t : Tmp K n F H own as v x) (h : ∀ j a, a ∈ own' j → a ∈ own j) : Tmp K n F H own' as v x := ⟨t.ro, t.nod, fun a z => ⟨(t.out a z).1, (t.out a z).2.1, fun i q => (t.out a z).2.2 i (h i a q)⟩⟩
/-- the new list grows -/
theorem Tmp.push {n : Ent} {F0 F H0 H : Hp} {σ0 σ : L2.St} {S0 S : SS} {own0 own : Nat → List Addr} {D : Addr} {as bs : List Addr} {acc : List OV} {y : V} {o : OV} (s0 : St K n F0 H0 σ0 S0 own0) (t : Tmp K n F0 H0 own0 (D :: as) (.ref D) (.ol acc)) (e : Same F0 F)
    (s : St K (n.with H0 (D :: as)) F H σ S own) (t2 : Tmp K (n.with H0 (D :: as)) F H own bs y o) :
    St K n F H σ S own ∧ ∃ xs, H D = some (.lst xs) ∧ xs.length = acc.length ∧ ∀ {σ' : L2.St} {S' : SS} {own' : Nat → List Addr}, St K n F H σ' S' own' → (∀ j a, a ∈ own' j → a ∈ own j) →
      St K n F (L2.upd H D (.lst (xs ++ [y]))) σ' S' own' ∧ Tmp K n F (L2.upd H D (.lst (xs ++ [y]))) own' (D :: (as ++ bs)) (.ref D) (.ol (acc ++ [o])) := by
  obtain ⟨s1, t1⟩ := t.back s0 e s
  have hR : ∀ a, (n.with H0 (D :: as)).R a = none → n.R a = none ∧ a ∉ D :: as := fun a z => by
    by_cases m : a ∈ D :: as
    · obtain ⟨u, q2, _⟩ := t.ro.dom a m
      rw [show (n.with H0 (D :: as)).R a = H0 a from adds_in m, q2] at z; cases z
    · exact ⟨by rw [show (n.with H0 (D :: as)).R a = n.R a from adds_out m] at z; exact z, m⟩
  refine ⟨s1, ?_⟩
  have hro : ∃ xs, H D = some (.lst xs) ∧ ROs K F H as xs acc := by
    have := t1.ro
    generalize hz : D :: as = zs at this
    generalize hv : V.ref D = vz at this
    cases this with
    | ol h r => cases hz; exact ⟨_, h, r⟩
  obtain ⟨xs, hD, hxs⟩ := hro
  refine ⟨xs, hD, hxs.length, fun {σ' S' own'} s' hsub => ?_⟩
  obtain ⟨hDF, hDR, _⟩ := t1.out D List.mem_cons_self
  have hDo : ∀ i, D ∉ own' i := fun i q => (t1.out D List.mem_cons_self).2.2 i (hsub i D q)
  have nodup := List.nodup_cons.mp t1.nod
  have hDb : D ∉ bs := fun q => (hR D (t2.out D q).2.1).2 List.mem_cons_self
  refine ⟨s'.upd hDF hDR hDo, ⟨.ol upd_same ?_, ?_, fun a m => ?_⟩⟩
  · refine ROs.append (hxs.frame (Same.refl F) fun a m => upd_ne fun z => nodup.1 (z ▸ m)) ?_
    have := ROs.cons (t2.ro.frame (Same.refl F) (H' := L2.upd H D (.lst (xs ++ [y]))) fun a m => upd_ne fun z => hDb (z ▸ m)) (ROs.nil (K := K) (F := F) (H := L2.upd H D (.lst (xs ++ [y]))))
    rwa [List.append_nil] at this
  · refine List.nodup_cons.mpr ⟨fun m => (List.mem_append.mp m).elim nodup.1 hDb, List.nodup_append.mpr ⟨nodup.2, t2.nod, fun a m b m2 z => ?_⟩⟩
    exact (hR b (t2.out b m2).2.1).2 (List.mem_cons_of_mem _ (z ▸ m))
  · rcases List.mem_cons.mp m with z | m
    · subst z; exact ⟨hDF, hDR, hDo⟩
    · rcases List.mem_append.mp m with m | m
      · have := t1.out a (List.mem_cons_of_mem _ m)
        exact ⟨this.1, this.2.1, fun i q => this.2.2 i (hsub i a q)⟩
      · exact ⟨(t2.out a m).1, (hR a (t2.out a m).2.1).1, fun i q => (t2.out a m).2.2 i (hsub i a q)⟩
/-- a comprehension's loop, its list at D -/
theorem lc_loop {n : Ent} {F H : Hp} {σ : L2.St} {S S' : SS} {own : Nat → List Addr} {vs : List Nat} {J : It} {ds : List PyData} {D : Addr} {as : List Addr} {acc accF : List OV} {Done : Hp → Prop} (hjs : ∀ j ∈ js, j ∈ vs)
    (st : St K n F H σ S own) (W : Wk K F J ds) (t : Tmp K n F H own (D :: as) (.ref D) (.ol acc)) (h : lcL vs gv ft f ds acc S = some (accF, S'))
    (done : ∀ F' H' own' as', Same F F' → St K n F' H' σ S' own' → Tmp K n F' H' own' (D :: as') (.ref D) (.ol accF) → Done H') :
    ∃ Wi : Nat → Nat → Hp → Prop, (∃ m, Wi 0 m H) ∧ ∀ i m H, Wi i m H →
      (J.stop i H ∧ Done H) ∨ (J.go i H ∧ ∃ Nx : Hp → Prop, (∀ H', Nx H' → ∃ m', m' < m ∧ Wi (i + 1) m' H') ∧ ∀ x H', J.yld i H x H' → tG K js gv x (wipe σ vs) H' fun σ2 H2 => wipe σ2 vs = wipe σ vs ∧ tB' K pc ft σ2 H2 fun b H3 =>
        if b = true then tO K pe' f σ2 H3 fun y H4 => ∃ acc, H4 D = some (.lst acc) ∧ acc.length < sizeLine ∧ Nx (upd H4 D (.lst (acc ++ [y]))) else Nx H3) := by
  refine ⟨fun i m H => m = ds.length - i ∧ i ≤ ds.length ∧ ∃ F2 S2 own2 as acc, Same F F2 ∧ St K n F2 H σ S2 own2 ∧ Tmp K n F2 H own2 (D :: as) (.ref D) (.ol acc) ∧ lcL vs gv ft f (ds.drop i) acc S2 = some (accF, S'),
    ⟨_, rfl, Nat.zero_le _, F, S, own, as, acc, Same.refl F, st, t, by simpa using h⟩, ?_⟩
  rintro i m H ⟨rfl, hi, F2, S2, own2, as2, acc2, e2, st2, t2, h2⟩
  by_cases hlt : i < ds.length
  · refine .inr ⟨W.go i H (fun a o q => st2.fh a o (e2 a o q)) hlt, ?_⟩
    rw [List.drop_eq_getElem_cons hlt] at h2
    refine ⟨fun H' => ∃ F2 S2 own2 as acc, Same F F2 ∧ St K n F2 H' σ S2 own2 ∧ Tmp K n F2 H' own2 (D :: as) (.ref D) (.ol acc) ∧ lcL vs gv ft f (ds.drop (i + 1)) acc S2 = some (accF, S'), fun H' ⟨F3, S3, own3, as3, acc3, a1, a2, a3, a4⟩ => ⟨ds.length - (i + 1), by omega, rfl, hlt, F3, S3, own3, as3, acc3, a1, a2, a3, a4⟩, fun x H3 hy => ?_⟩
    have sa := t2.aside st2
    obtain ⟨F3, e3, st3, hh3, d, hd, rd⟩ := W.yld _ i F2 H σ S2 own2 x H3 e2 sa hlt hy
    have hd' : ds[i] = d := by rw [List.getElem?_eq_getElem hlt] at hd; exact Option.some.inj hd
    rw [hd'] at h2
    unfold lcL at h2
    split at h2
    · rename_i S4 h4
      obtain ⟨own3, st3', _⟩ := st3.wipeV (σ' := wipe σ vs) vs (wipe_length σ vs) (fun j hj => wipe_get (x := none) hj)
      refine ⟨_, F3, _, own3, d, S4, st3', rd, h4, fun F4 H4 σ4 own4 e4 st4 ag => ?_⟩
      have hl4 : σ4.length = σ.length := ag.1.trans (wipe_length σ vs)
      have ag4 : ∀ j, j ∉ vs → σ4[j]? = (wipe σ vs)[j]? := fun j hj => ag.2 j fun z => hj (hjs j z)
      refine ⟨wipe_eq hl4 ag4, ?_⟩
      have back : ∀ j, j ∉ vs → σ[j]? = σ4[j]? := fun j hj => ((ag4 j hj).trans (wipe_get (x := none) hj)).symm
      split at h2
      · rename_i S5 h5
        refine ⟨_, F4, S4, own4, true, S5, st4, h5, fun F5 H5 own5 e5 st5 pu => ?_⟩
        show if true = true then _ else _
        rw [if_pos rfl]
        split at h2
        · rename_i o S6 h6
          split at h2
          · rename_i hz
            refine ⟨_, F5, S5, own5, o, S6, st5, h6, fun F6 H6 own6 y bs e6 st6 t6 pu => ?_⟩
            have eF : Same F2 F6 := ((e3.trans e4).trans e5).trans e6
            obtain ⟨s7, xs, hD, hlx, push⟩ := Tmp.push st2 t2 eF st6 t6
            obtain ⟨own8, st8, sub8⟩ := s7.wipeV (σ' := σ) vs hl4.symm back
            obtain ⟨st9, t9⟩ := push st8 sub8
            exact ⟨xs, hD, by rw [hlx]; exact hz, F6, _, own8, _, _, e2.trans eF, st9, t9, h2⟩
          · cases h2
        · cases h2
      · rename_i S5 h5
        refine ⟨_, F4, S4, own4, false, S5, st4, h5, fun F5 H5 own5 e5 st5 pu => ?_⟩
        show if false = true then _ else _
        rw [if_neg Bool.false_ne_true]
        have eF : Same F2 F5 := (e3.trans e4).trans e5
        obtain ⟨s7, t7⟩ := t2.back st2 eF st5
        obtain ⟨own8, st8, sub8⟩ := s7.wipeV (σ' := σ) vs hl4.symm back
        exact ⟨F5, _, own8, as2, acc2, e2.trans eF, st8, t7.sub sub8, h2⟩
      · cases h2
    · cases h2
  · have e0 : i = ds.length := by omega
    subst e0
    rw [List.drop_length] at h2
    cases h2
    exact .inl ⟨W.stop H (fun a o q => st2.fh a o (e2 a o q)), done F2 H own2 as2 e2 st2 t2⟩
theorem tmp_new {n : Ent} {F H : Hp} {σ : L2.St} {S : SS} {own : Nat → List Addr} {D : Addr} (st : St K n F H σ S own) (hD : H D = none) : St K n F (upd H D (.lst [])) σ S own ∧ Tmp K n F (upd H D (.lst [])) own [D] (.ref D) (.ol []) := by
  obtain ⟨s2, _, h1, h2, h3⟩ := st.layOwn (o := .lst []) hD
  refine ⟨s2, ⟨.ol upd_same .nil, by simp, fun a m => ?_⟩⟩
  have : a = D := by simpa using m
  subst this
  exact ⟨h1, h2, h3⟩
theorem lc_imp {vs : List Nat} (hjs : ∀ j ∈ js, j ∈ vs) (σ : L2.St) (H : Hp) (Q : VK) : tO K false (eLc vs fi gv ft f) σ H Q → tLc (tI K fi) (tG K js gv) (tB' K pc ft) (tO K pe' f) vs σ H Q := fun ⟨n, F, S, own, o, S', st, hf, q⟩ => by
  unfold eLc at hf
  split at hf
  · rename_i ds S1 h1
    split at hf
    · rename_i acc S2 h2
      cases hf
      refine ⟨n, F, S, own, ds, S1, st, h1, fun F1 H1 own1 J e1 st1 W => fun D hD => ?_⟩
      obtain ⟨st2, t2⟩ := tmp_new st1 hD
      exact lc_loop hjs st2 W t2 h2 fun F' H' own' as' e' st' t' => q F' H' own' _ _ (e1.trans e') st' t' (fun z => nomatch z)
    · cases hf
  · cases hf
/-- [elt for target in iter if ..] -/
theorem d_lc {scope : Scope} {own : List (Str × Nat)} (hc : X.calm = true) (hN : X.N.Nodup) (hi : DI X tg iter fi) (ok : BlkOk X.N X.env.scope scope own) (hjs : ∀ j ∈ js, j ∈ own.map (·.2))
    (hg : ∀ (s : Shared) (H : Hp) (C : Addr) (cl : List (Str × Addr)) (fp : List Addr), DG (X.blk s H scope (compEnvC scope cl C X.env) fp) js tg gv) (ht : ∀ (s : Shared) (H : Hp) (C : Addr) (cl : List (Str × Addr)) (fp : List Addr), DTs (X.blk s H scope (compEnvC scope cl C X.env) fp) pc ifs ft)
    (he : ∀ (s : Shared) (H : Hp) (C : Addr) (cl : List (Str × Addr)) (fp : List Addr), DO (X.blk s H scope (compEnvC scope cl C X.env) fp) pe' elt f) (hs : ∀ x, foldedSetIterable iter X.env x = pure x := by intro _; rfl) :
    DO X false (.ListComp elt [⟨tg, iter, ifs, 0⟩] scope pos) (eLc (own.map (·.2)) fi gv ft f) :=
  ⟨(pe_lc hc hN hi.pi ok (fun s H C cl fp => (hg s H C cl fp).pg) (fun s H C cl fp => (ht s H C cl fp).pt) (fun s H C cl fp => (he s H C cl fp).pe) hs).imp (lc_imp hjs)⟩
/-- y = [elt for target in iter if ..] -/
theorem s_setLc (i : Nat) {y : Str} {py spos : Pos} {scope : Scope} {own : List (Str × Nat)} (hc : X.calm = true) (hN : X.N.Nodup) (hy : X.N[i]? = some y) (hyl : X.env.scope.names.lookup y = some .local)
    (hsw : swapsWith (.ListComp elt [⟨tg, iter, ifs, 0⟩] scope pos) (some (.Name y py)) spos.line X.env = pure true) (hi : DI X tg iter fi) (ok : BlkOk X.N X.env.scope scope own) (hjs : ∀ j ∈ js, j ∈ own.map (·.2))
    (hg : ∀ (s : Shared) (H : Hp) (C : Addr) (cl : List (Str × Addr)) (fp : List Addr), DG (X.blk s H scope (compEnvC scope cl C X.env) fp) js tg gv) (ht : ∀ (s : Shared) (H : Hp) (C : Addr) (cl : List (Str × Addr)) (fp : List Addr), DTs (X.blk s H scope (compEnvC scope cl C X.env) fp) pc ifs ft)
    (he : ∀ (s : Shared) (H : Hp) (C : Addr) (cl : List (Str × Addr)) (fp : List Addr), DO (X.blk s H scope (compEnvC scope cl C X.env) fp) pe' elt f) (hs : ∀ x, foldedSetIterable iter X.env x = pure x := by intro _; rfl) :
    DS X (.Assign [.Name y py] (.ListComp elt [⟨tg, iter, ifs, 0⟩] scope pos) spos) (gSet i (eLc (own.map (·.2)) fi gv ft f)) :=
  ⟨(ps_setLc (i := i) hc hN hy hyl hsw hi.pi ok (fun s H C cl fp => (hg s H C cl fp).pg) (fun s H C cl fp => (ht s H C cl fp).pt) (fun s H C cl fp => (he s H C cl fp).pe) hs).imp fun D σ H ⟨n, F, S, own, fl, S', st, hh, q⟩ => lc_imp hjs σ H _ (by
    unfold gSet at hh
    split at hh
    · rename_i o S1 h
      split at hh
      · rename_i S2 h2
        cases hh
        exact ⟨n, F, S, own, o, S1, st, h, fun F' H' own' v as e st' t pu => q F' H' _ _ e (st'.putS t h2)⟩
      · cases hh
    · cases hh)⟩

/-! ### two clauses -/
def lc2L (vs vs1 : List Nat) (gv : GV) (ft : EB) (fj : EI) (gv2 : GV) (ft2 : EB) (f : EV) : List PyData → List OV → SS → Option (List OV × SS)
  | [], acc, S => some (acc, S)
  | d :: ds, acc, S => match gv d (wipeS vs S) with
    | some S1 => (match ft S1 with
      | some (true, S2) => (match fj S2 with
        | some (es, S3) => (match lcL vs1 gv2 ft2 f es acc S3 with
          | some (acc2, S4) => lc2L vs vs1 gv ft fj gv2 ft2 f ds acc2 (wipeS vs S4)
          | none => none)
        | none => none)
      | some (false, S2) => lc2L vs vs1 gv ft fj gv2 ft2 f ds acc (wipeS vs S2)
      | none => none)
    | none => none
def eLc2 (vs vs1 : List Nat) (fi : EI) (gv : GV) (ft : EB) (fj : EI) (gv2 : GV) (ft2 : EB) (f : EV) : EV := fun S => match fi S with
  | some (ds, S1) => (match lc2L vs vs1 gv ft fj gv2 ft2 f ds [] S1 with
    | some (acc, S2) => some (.ol acc, S2)
    | none => none)
  | none => none
theorem lc2_imp {vs vs1 ks : List Nat} (hjs : ∀ j ∈ js, j ∈ vs) (hks : ∀ j ∈ ks, j ∈ vs1) (σ : L2.St) (H : Hp) (Q : VK) : tO K false (eLc2 vs vs1 fi gv ft fj gv2 ft2 f) σ H Q → tLc2 (tI K fi) (tG K js gv) (tB' K pc ft) (tI K fj) (tG K ks gv2) (tB' K pa ft2) (tO K pe' f) vs vs1 σ H Q := fun ⟨n, F, S, own, o, S', st, hf, q⟩ => by
  unfold eLc2 at hf
  split at hf
  · rename_i ds S1 h1
    split at hf
    · rename_i accF S2 h2
      cases hf
      refine ⟨n, F, S, own, ds, S1, st, h1, fun F1 H1 own1 J e1 st1 W => fun D hD => ?_⟩
      obtain ⟨st2, t2⟩ := tmp_new st1 hD
      refine ⟨fun i m H => m = ds.length - i ∧ i ≤ ds.length ∧ ∃ F2 S2 own2 as acc, Same F1 F2 ∧ St K n F2 H σ S2 own2 ∧ Tmp K n F2 H own2 (D :: as) (.ref D) (.ol acc) ∧ lc2L vs vs1 gv ft fj gv2 ft2 f (ds.drop i) acc S2 = some (accF, S'),
        ⟨_, rfl, Nat.zero_le _, F1, S1, own1, [], [], Same.refl F1, st2, t2, by simpa using h2⟩, ?_⟩
      rintro i m H ⟨rfl, hi, F2, S2, own2, as2, acc2, e2, st2, t2, h2⟩
      by_cases hlt : i < ds.length
      · refine .inr ⟨W.go i H (fun a o q => st2.fh a o (e2 a o q)) hlt, ?_⟩
        rw [List.drop_eq_getElem_cons hlt] at h2
        refine ⟨fun H' => ∃ F2 S2 own2 as acc, Same F1 F2 ∧ St K n F2 H' σ S2 own2 ∧ Tmp K n F2 H' own2 (D :: as) (.ref D) (.ol acc) ∧ lc2L vs vs1 gv ft fj gv2 ft2 f (ds.drop (i + 1)) acc S2 = some (accF, S'), fun H' ⟨F3, S3, own3, as3, acc3, a1, a2, a3, a4⟩ => ⟨ds.length - (i + 1), by omega, rfl, hlt, F3, S3, own3, as3, acc3, a1, a2, a3, a4⟩, fun x H3 hy => ?_⟩
        have sa := t2.aside st2
        obtain ⟨F3, e3, st3, hh3, d, hd, rd⟩ := W.yld _ i F2 H σ S2 own2 x H3 e2 sa hlt hy
        have hd' : ds[i] = d := by rw [List.getElem?_eq_getElem hlt] at hd; exact Option.some.inj hd
        rw [hd'] at h2
        unfold lc2L at h2
        split at h2
        · rename_i S4 h4
          obtain ⟨own3, st3', _⟩ := st3.wipeV (σ' := wipe σ vs) vs (wipe_length σ vs) (fun j hj => wipe_get (x := none) hj)
          refine ⟨_, F3, _, own3, d, S4, st3', rd, h4, fun F4 H4 σ4 own4 e4 st4 ag => ?_⟩
          have hl4 : σ4.length = σ.length := ag.1.trans (wipe_length σ vs)
          have ag4 : ∀ j, j ∉ vs → σ4[j]? = (wipe σ vs)[j]? := fun j hj => ag.2 j fun z => hj (hjs j z)
          refine ⟨wipe_eq hl4 ag4, ?_⟩
          have back : ∀ j, j ∉ vs → σ[j]? = σ4[j]? := fun j hj => ((ag4 j hj).trans (wipe_get (x := none) hj)).symm
          split at h2
          · rename_i S5 h5
            refine ⟨_, F4, S4, own4, true, S5, st4, h5, fun F5 H5 own5 e5 st5 pu => ?_⟩
            show if true = true then _ else _
            rw [if_pos rfl]
            split at h2
            · rename_i es S6 h6
              split at h2
              · rename_i acc7 S7 h7
                refine ⟨_, F5, S5, own5, es, S6, st5, h6, fun F6 H6 own6 J1 e6 st6 W1 => ?_⟩
                have eF : Same F2 F6 := ((e3.trans e4).trans e5).trans e6
                obtain ⟨s7, t7⟩ := t2.back st2 eF st6
                refine lc_loop hks s7 W1 t7 h7 fun F' H' own' as' e' st' t' => ?_
                obtain ⟨own8, st8, sub8⟩ := st'.wipeV (σ' := σ) vs hl4.symm back
                exact ⟨F', _, own8, as', acc7, (e2.trans eF).trans e', st8, t'.sub sub8, h2⟩
              · cases h2
            · cases h2
          · rename_i S5 h5
            refine ⟨_, F4, S4, own4, false, S5, st4, h5, fun F5 H5 own5 e5 st5 pu => ?_⟩
            show if false = true then _ else _
            rw [if_neg Bool.false_ne_true]
            have eF : Same F2 F5 := (e3.trans e4).trans e5
            obtain ⟨s7, t7⟩ := t2.back st2 eF st5
            obtain ⟨own8, st8, sub8⟩ := s7.wipeV (σ' := σ) vs hl4.symm back
            exact ⟨F5, _, own8, as2, acc2, e2.trans eF, st8, t7.sub sub8, h2⟩
          · cases h2
        · cases h2
      · have e0 : i = ds.length := by omega
        subst e0
        rw [List.drop_length] at h2
        cases h2
        exact .inl ⟨W.stop H (fun a o q => st2.fh a o (e2 a o q)), q F2 H own2 _ _ (e1.trans e2) st2 t2 (fun z => nomatch z)⟩
    · cases hf
  · cases hf
theorem d_lc2 {scope : Scope} {own : List (Str × Nat)} {vs1 ks : List Nat} (hc : X.calm = true) (hN : X.N.Nodup) (hi : DI X tg iter fi) (ok : BlkOk X.N X.env.scope scope own) (hv : ∀ i ∈ vs1, i ∈ own.map (·.2)) (hjs : ∀ j ∈ js, j ∈ own.map (·.2)) (hks : ∀ j ∈ ks, j ∈ vs1)
    (hg : ∀ (s : Shared) (H : Hp) (C : Addr) (cl : List (Str × Addr)) (fp : List Addr), DG (X.blk s H scope (compEnvC scope cl C X.env) fp) js tg gv) (ht : ∀ (s : Shared) (H : Hp) (C : Addr) (cl : List (Str × Addr)) (fp : List Addr), DTs (X.blk s H scope (compEnvC scope cl C X.env) fp) pc ifs ft)
    (hi1 : ∀ (s : Shared) (H : Hp) (C : Addr) (cl : List (Str × Addr)) (fp : List Addr), DI (X.blk s H scope (compEnvC scope cl C X.env) fp) tg1 iter1 fj)
    (hg1 : ∀ (s : Shared) (H : Hp) (C : Addr) (cl : List (Str × Addr)) (fp : List Addr), DG (X.blk s H scope (compEnvC scope cl C X.env) fp) ks tg1 gv2) (ht1 : ∀ (s : Shared) (H : Hp) (C : Addr) (cl : List (Str × Addr)) (fp : List Addr), DTs (X.blk s H scope (compEnvC scope cl C X.env) fp) pa ifs1 ft2)
    (he : ∀ (s : Shared) (H : Hp) (C : Addr) (cl : List (Str × Addr)) (fp : List Addr), DO (X.blk s H scope (compEnvC scope cl C X.env) fp) pe' elt f) (hs : ∀ x, foldedSetIterable iter X.env x = pure x := by intro _; rfl) (hs1 : ∀ env x, foldedSetIterable iter1 env x = pure x := by intro _ _; rfl) :
    DO X false (.ListComp elt [⟨tg, iter, ifs, 0⟩, ⟨tg1, iter1, ifs1, 0⟩] scope pos) (eLc2 (own.map (·.2)) vs1 fi gv ft fj gv2 ft2 f) :=
  ⟨(pe_lc2 hc hN hi.pi ok hv (fun s H C cl fp => (hg s H C cl fp).pg) (fun s H C cl fp => (ht s H C cl fp).pt) (fun s H C cl fp => (hi1 s H C cl fp).pi) (fun s H C cl fp => (hg1 s H C cl fp).pg) (fun s H C cl fp => (ht1 s H C cl fp).pt) (fun s H C cl fp => (he s H C cl fp).pe) hs hs1).imp (lc2_imp hjs hks)⟩
end
end PD
set_option Elab.async false
set_option linter.all false
set_option maxRecDepth 100000
set_option maxHeartbeats 4000000
namespace PD
open PySem PySem.Spec PyProof.Rows L2

section
variable {X : Cx} {e e2 a b c : Expr} {es : List Expr} {p pa pb pc : Bool} {f fa fb fc : EV} {ga : EA} {pos : Pos} {K : Frg} {ft ft2 ta tb : EB}
/-! ### lists and tuples by their data -/
def itemsL : OV → Option (List PyData)
  | .fz (.list ds) => some ds
  | .ol xs => allFz xs
  | _ => none
theorem ROs.rp {F H : Hp} : ∀ {as : List Addr} {vs : List V} {ds : List PyData}, ROs K F H as vs (ds.map OV.fz) → RpAll K F vs ds
  | _, [], [], _ => .nil
  | _, [], _ :: _, h => by cases h
  | _, _ :: _, [], h => by cases h
  | _, v :: vs, d :: ds, h => by
    cases h with
    | cons h r => exact .cons h.rp (ROs.rp r)
theorem RO.ol_inv {F H : Hp} {as : List Addr} {v : V} {xs : List OV} (h : RO K F H as v (.ol xs)) : ∃ a bs vs, v = .ref a ∧ as = a :: bs ∧ H a = some (.lst vs) ∧ ROs K F H bs vs xs := by
  cases h with | ol h r => exact ⟨_, _, _, rfl, rfl, h, r⟩
theorem RO.lst {F H : Hp} {as : List Addr} {v : V} {o : OV} {ds : List PyData} (h : RO K F H as v o) (e : Same F H) (hd : itemsL o = some ds) : ∃ a vs, v = .ref a ∧ H a = some (.lst vs) ∧ RpAll K F vs ds := by
  unfold itemsL at hd
  split at hd
  · cases hd
    cases h.rp with | lst h' r => exact ⟨_, _, rfl, e _ _ h', r⟩
  · have := allFz_map hd
    subst this
    obtain ⟨a, bs, vs, rfl, _, h1, h2⟩ := h.ol_inv
    exact ⟨a, vs, rfl, h1, h2.rp⟩
  · cases hd
theorem RO.tup {F H : Hp} {as : List Addr} {v : V} {ds : List PyData} (h : RO K F H as v (.fz (.tuple ds))) (e : Same F H) : ∃ a vs, v = .ref a ∧ SqT K H a vs ∧ RpAll K F vs ds := by
  cases h.rp with | tup h' r => exact ⟨_, _, rfl, Same.sqT e (.inl (.inl h')), r⟩
theorem RO.str_v {F H : Hp} {as : List Addr} {v : V} {i : Str} (h : RO K F H as v (.fz (.str i))) : v = .str i := by
  cases h with | fz h => cases h; rfl
theorem RO.bl_v {F H : Hp} {as : List Addr} {v : V} {i : Bool} (h : RO K F H as v (.fz (.bool i))) : v = .bl i := by
  cases h with | fz h => cases h; rfl
theorem OpEnd.mk {n : Ent} {F H : Hp} {σ : L2.St} {S : SS} {own : Nat → List Addr} {d : PyData} {Q : VK} {v : V} (h : OpEnd K n F H σ S own (.fz d) Q) (st : St K n F H σ S own) (r : Rp K F v d) : Q v H := h.val st r

/-! ### == -/
mutual
theorem Rp.dp {F : Hp} : ∀ {v : V} {d : PyData}, Rp K F v d → d.canLay0 = true → Dp K F v d
  | _, _, .non, _ => .non
  | _, _, .bl b, _ => .bl b
  | _, _, .int i, _ => .int i
  | _, _, .str x, _ => .str x
  | _, _, .lst h r, c => .lst (SqL.of h) (RpAll.dp r (by simpa [PyData.canLay0] using c))
  | _, _, .tup h r, c => .tup (.inl (.inl h)) (RpAll.dp r (by simpa [PyData.canLay0] using c))
  | _, _, .scr h r, c => by simp [PyData.canLay0, scrD] at c
  | _, _, .dcK h k r, c => by simp [PyData.canLay0] at c
  | _, _, .dcT h k r, c => by simp [PyData.canLay0] at c
theorem RpAll.dp {F : Hp} : ∀ {vs : List V} {ds : List PyData}, RpAll K F vs ds → PyData.canLayAll0 ds = true → DpAll K F vs ds
  | _, _, .nil, _ => .nil
  | _, _, .cons h r, c => by
    simp [PyData.canLayAll0] at c
    exact .cons (Rp.dp h c.1) (RpAll.dp r c.2)
end
def gEq (x y : OV) : Option OV := if SeqAt.shaped x.erase && SeqAt.shaped y.erase then some (.fz (.bool (PyData.eqv x.erase y.erase))) else none
def gNe (x y : OV) : Option OV := if SeqAt.shaped x.erase && SeqAt.shaped y.erase then some (.fz (.bool (!PyData.eqv x.erase y.erase))) else none
theorem ox_eq : OpX K (rEqD K) gEq := by
  intro n F H σ S own x y o1 o2 as bs o Q st rx ry h he
  unfold gEq at h
  split at h
  · rename_i hs
    cases h
    simp only [Bool.and_eq_true] at hs
    exact ⟨_, _, (rx.rpH st.fh).dp (SeqAt.canLay_of_shaped hs.1), (ry.rpH st.fh).dp (SeqAt.canLay_of_shaped hs.2), hs.1, hs.2, he.val st (.bl _)⟩
  · cases h
theorem ox_ne : OpX K (rNeD K) gNe := by
  intro n F H σ S own x y o1 o2 as bs o Q st rx ry h he
  unfold gNe at h
  split at h
  · rename_i hs
    cases h
    simp only [Bool.and_eq_true] at hs
    exact ⟨_, _, (rx.rpH st.fh).dp (SeqAt.canLay_of_shaped hs.1), (ry.rpH st.fh).dp (SeqAt.canLay_of_shaped hs.2), hs.1, hs.2, he.val st (.bl _)⟩
  · cases h
theorem hu64 {k : Nat} (hr : Room k X.A) : X.A.units + 64 < cLine := hr.units
theorem hu65 {k : Nat} (hr : Room k X.A) : X.A.units + 65 < cLine := by have := hr.un; omega
theorem d_eq {k : Nat} (hr : Room k X.A) (ha : DX X pa a fa) (hb : DX X pb b fb) : DO X (pa && pb) (.Compare a [.Eq] [b] pos) (eBin gEq pb fa fb) := d_cmp (op_eqD hr.units) ox_eq ha hb (nomark _)
theorem d_ne {k : Nat} (hr : Room k X.A) (ha : DX X pa a fa) (hb : DX X pb b fb) : DO X (pa && pb) (.Compare a [.NotEq] [b] pos) (eBin gNe pb fa fb) := d_cmp (op_neD hr.units) ox_ne ha hb (nomark _)
/-! ### is None -/
def isN : OV → Bool
  | .fz .none => true
  | _ => false
theorem RO.isN_v {F H : Hp} {as : List Addr} {v : V} {o : OV} (h : RO K F H as v o) : decide (v = .non) = isN o := by
  cases h with
  | fz h => cases h <;> rfl
  | ol _ _ => rfl
  | ok _ _ _ => rfl
  | ot _ _ _ => rfl
def gIsN (x y : OV) : Option OV := if isN y then some (.fz (.bool (isN x))) else none
def gNotN (x y : OV) : Option OV := if isN y then some (.fz (.bool (!isN x))) else none
theorem isN_non {F H : Hp} {as : List Addr} {v : V} {o : OV} (h : RO K F H as v o) (e : isN o = true) : v = .non := by
  have := h.isN_v
  rw [e] at this
  exact of_decide_eq_true this
theorem ox_isN : OpX K (fun x y H Q => y = .non ∧ Q (.bl (decide (x = .non))) H) gIsN := by
  intro n F H σ S own x y o1 o2 as bs o Q st rx ry h he
  unfold gIsN at h
  split at h
  · rename_i hs
    cases h
    refine ⟨isN_non ry hs, ?_⟩
    rw [rx.isN_v]
    exact he.val st (.bl _)
  · cases h
theorem ox_notN : OpX K (fun x y H Q => y = .non ∧ Q (.bl (!decide (x = .non))) H) gNotN := by
  intro n F H σ S own x y o1 o2 as bs o Q st rx ry h he
  unfold gNotN at h
  split at h
  · rename_i hs
    cases h
    refine ⟨isN_non ry hs, ?_⟩
    rw [rx.isN_v]
    exact he.val st (.bl _)
  · cases h
theorem d_isN (ha : DX X pa a fa) (hb : DX X pb b fb) : DO X (pa && pb) (.Compare a [.Is] [b] pos) (eBin gIsN pb fa fb) := d_cmp op_isN ox_isN ha hb (nomark _)
theorem d_notN (ha : DX X pa a fa) (hb : DX X pb b fb) : DO X (pa && pb) (.Compare a [.IsNot] [b] pos) (eBin gNotN pb fa fb) := d_cmp op_notN ox_notN ha hb (nomark _)

/-! ### tests -/
def bOf (f : EV) : EB := fun S => match f S with
  | some (.fz (.bool b), S') => some (b, S')
  | _ => none
theorem tB_imp {t : TE} (σ : L2.St) (H : Hp) (Q : Bool → Hp → Prop) (i : ∀ Q, tO K p f σ H Q → t σ H Q) : tB' K p (bOf f) σ H Q → tTest t σ H Q := fun ⟨n, F, S, own, b, S', st, hf, q⟩ => by
  unfold bOf at hf
  split at hf
  · rename_i b1 S1 h1
    cases hf
    refine i _ ⟨n, F, S, own, _, _, st, h1, fun F' H' own' v as e st' t' pu => ?_⟩
    cases t'.ro.bl_v
    exact ⟨b, rfl, q F' H' own' e st' pu⟩
  · cases hf
theorem t_cmp {op : CmpOp} {r : R2} {g : OV → OV → Option OV} (ho : OpR X (compareOp op) r) (hg : OpX X.K r g) (ha : DX X pa a fa) (hb : DX X pb b fb) (hm : behindInMarks op b = false) : DT X (pa && pb) (.Compare a [op] [b] pos) (bOf (eBin g pb fa fb)) :=
  ⟨(pt_cmpR ho ha.pe hb.pe hm).imp fun σ H Q => tB_imp σ H Q fun Q => bin_imp hg σ H Q⟩
theorem t_val (h : DO X p e f) (he : ∀ whole, isTrue e X.env whole = (do let v ← whole; standAt e.pos; holding [v] (truthy v)) := by intro _; rfl) : DT X p e (bOf f) := ⟨(pt_val h.pe he).imp fun σ H Q q => by
  have := tB_imp (t := tO X.K p f) σ H Q (fun Q h => h) q
  exact this⟩
def bAnd (fa fb : EB) : EB := fun S => match fa S with
  | some (true, S1) => fb S1
  | some (false, S1) => some (false, S1)
  | none => none
def bOr (fa fb : EB) : EB := fun S => match fa S with
  | some (false, S1) => fb S1
  | some (true, S1) => some (true, S1)
  | none => none
def bNot (fa : EB) : EB := fun S => match fa S with
  | some (b, S1) => some (!b, S1)
  | none => none
theorem DW.t (h : DW X p e ta) : DT X p e ta := ⟨h.pw.pt⟩
theorem w_and1 (h : DT X p a ta) : DW X p (.BoolOp .And [a] pos) ta := ⟨pw_and1 h.pt⟩
theorem w_or1 (h : DT X p a ta) : DW X p (.BoolOp .Or [a] pos) ta := ⟨pw_or1 h.pt⟩
theorem Pu.step {p q : Bool} {S S1 : SS} {o o1 : Nat → List Addr} {H H1 : Hp} (a : Pu p S S1 o o1 H H1) : Pu (p && q) S S1 o o1 H H1 := fun h => a (by simp only [Bool.and_eq_true] at h; exact h.1)
theorem w_and {rest : List Expr} (ha : DT X pa a ta) (hb : DW X pb (.BoolOp .And (b :: rest) pos) tb) : DW X (pa && pb) (.BoolOp .And (a :: b :: rest) pos) (bAnd ta tb) := ⟨(pw_and ha.pt hb.pw).imp fun σ H Q ⟨n, F, S, own, b, S', st, hf, q⟩ => by
  unfold bAnd at hf
  split at hf
  · rename_i S1 h1
    exact ⟨n, F, S, own, true, S1, st, h1, fun F1 H1 own1 e1 st1 pu1 => by
      show if true = true then _ else _
      rw [if_pos rfl]
      exact ⟨n, F1, S1, own1, b, S', st1, hf, fun F2 H2 own2 e2 st2 pu2 => q F2 H2 own2 (e1.trans e2) st2 (pu1.trans pu2)⟩⟩
  · rename_i S1 h1
    cases hf
    exact ⟨n, F, S, own, false, _, st, h1, fun F1 H1 own1 e1 st1 pu1 => by
      show if false = true then _ else _
      rw [if_neg Bool.false_ne_true]
      exact q F1 H1 own1 e1 st1 pu1.step⟩
  · cases hf⟩
theorem w_or {rest : List Expr} (ha : DT X pa a ta) (hb : DW X pb (.BoolOp .Or (b :: rest) pos) tb) : DW X (pa && pb) (.BoolOp .Or (a :: b :: rest) pos) (bOr ta tb) := ⟨(pw_or ha.pt hb.pw).imp fun σ H Q ⟨n, F, S, own, b, S', st, hf, q⟩ => by
  unfold bOr at hf
  split at hf
  · rename_i S1 h1
    exact ⟨n, F, S, own, false, S1, st, h1, fun F1 H1 own1 e1 st1 pu1 => by
      show if false = true then _ else _
      rw [if_neg Bool.false_ne_true]
      exact ⟨n, F1, S1, own1, b, S', st1, hf, fun F2 H2 own2 e2 st2 pu2 => q F2 H2 own2 (e1.trans e2) st2 (pu1.trans pu2)⟩⟩
  · rename_i S1 h1
    cases hf
    exact ⟨n, F, S, own, true, _, st, h1, fun F1 H1 own1 e1 st1 pu1 => by
      show if true = true then _ else _
      rw [if_pos rfl]
      exact q F1 H1 own1 e1 st1 pu1.step⟩
  · cases hf⟩
theorem t_not (ha : DT X p a ta) : DT X p (.UnaryOp .Not a pos) (bNot ta) := ⟨(pt_not ha.pt).imp fun σ H Q ⟨n, F, S, own, b, S', st, hf, q⟩ => by
  unfold bNot at hf
  split at hf
  · rename_i b1 S1 h1
    cases hf
    exact ⟨n, F, S, own, b1, S', st, h1, q⟩
  · cases hf⟩
/-! ### and, or, not as values -/
def eAnd (fa fb : EV) : EV := fun S => match fa S with
  | some (.fz (.bool true), S1) => fb S1
  | some (.fz (.bool false), S1) => some (.fz (.bool false), S1)
  | _ => none
def eOr (fa fb : EV) : EV := fun S => match fa S with
  | some (.fz (.bool false), S1) => fb S1
  | some (.fz (.bool true), S1) => some (.fz (.bool true), S1)
  | _ => none
def eNot (fa : EV) : EV := fun S => match fa S with
  | some (.fz (.bool b), S1) => some (.fz (.bool (!b)), S1)
  | _ => none
theorem d_one {op} (h : DO X p a f) : DO X p (.BoolOp op [a] pos) f := ⟨pe_one h.pe⟩
theorem d_and {rest : List Expr} (ha : DO X pa a fa) (hb : DO X pb (.BoolOp .And (b :: rest) pos) fb) : DO X (pa && pb) (.BoolOp .And (a :: b :: rest) pos) (eAnd fa fb) := ⟨(pe_and ha.pe hb.pe).imp fun σ H Q ⟨n, F, S, own, o, S', st, hf, q⟩ => by
  unfold eAnd at hf
  split at hf
  · rename_i S1 h1
    refine ⟨n, F, S, own, _, S1, st, h1, fun F1 H1 own1 v as e1 st1 t1 pu1 => ?_⟩
    cases t1.ro.bl_v
    refine ⟨true, rfl, ?_⟩
    rw [if_pos rfl]
    exact ⟨n, F1, S1, own1, o, S', st1, hf, fun F2 H2 own2 v as e2 st2 t2 pu2 => q F2 H2 own2 v as (e1.trans e2) st2 t2 (pu1.trans pu2)⟩
  · rename_i S1 h1
    cases hf
    refine ⟨n, F, S, own, _, _, st, h1, fun F1 H1 own1 v as e1 st1 t1 pu1 => ?_⟩
    cases t1.ro.bl_v
    refine ⟨false, rfl, ?_⟩
    rw [if_neg Bool.false_ne_true]
    exact q F1 H1 own1 _ [] e1 st1 (Tmp.fz (.bl _)) pu1.step
  · cases hf⟩
theorem d_or {rest : List Expr} (ha : DO X pa a fa) (hb : DO X pb (.BoolOp .Or (b :: rest) pos) fb) : DO X (pa && pb) (.BoolOp .Or (a :: b :: rest) pos) (eOr fa fb) := ⟨(pe_or ha.pe hb.pe).imp fun σ H Q ⟨n, F, S, own, o, S', st, hf, q⟩ => by
  unfold eOr at hf
  split at hf
  · rename_i S1 h1
    refine ⟨n, F, S, own, _, S1, st, h1, fun F1 H1 own1 v as e1 st1 t1 pu1 => ?_⟩
    cases t1.ro.bl_v
    refine ⟨false, rfl, ?_⟩
    rw [if_neg Bool.false_ne_true]
    exact ⟨n, F1, S1, own1, o, S', st1, hf, fun F2 H2 own2 v as e2 st2 t2 pu2 => q F2 H2 own2 v as (e1.trans e2) st2 t2 (pu1.trans pu2)⟩
  · rename_i S1 h1
    cases hf
    refine ⟨n, F, S, own, _, _, st, h1, fun F1 H1 own1 v as e1 st1 t1 pu1 => ?_⟩
    cases t1.ro.bl_v
    refine ⟨true, rfl, ?_⟩
    rw [if_pos rfl]
    exact q F1 H1 own1 _ [] e1 st1 (Tmp.fz (.bl _)) pu1.step
  · cases hf⟩
theorem d_not (ha : DO X p a fa) : DO X p (.UnaryOp .Not a pos) (eNot fa) := ⟨(pe_not ha.pe).imp fun σ H Q ⟨n, F, S, own, o, S', st, hf, q⟩ => by
  unfold eNot at hf
  split at hf
  · rename_i b S1 h1
    cases hf
    refine ⟨n, F, S, own, _, _, st, h1, fun F1 H1 own1 v as e1 st1 t1 pu1 => ?_⟩
    cases t1.ro.bl_v
    exact ⟨b, rfl, q F1 H1 own1 _ [] e1 st1 (Tmp.fz (.bl _)) pu1⟩
  · cases hf⟩
/-! ### a if t else b -/
def eIf (ft : EB) (fa fb : EV) : EV := fun S => match ft S with
  | some (true, S1) => fa S1
  | some (false, S1) => fb S1
  | none => none
theorem d_if (hc : DT X pc c ft) (ha : DO X pa a fa) (hb : DO X pb b fb) : DO X (pc && (pa && pb)) (.IfExp c a b pos) (eIf ft fa fb) := ⟨(pe_ifExp hc.pt ha.pe hb.pe).imp fun σ H Q ⟨n, F, S, own, o, S', st, hf, q⟩ => by
  unfold eIf at hf
  split at hf
  · rename_i S1 h1
    exact ⟨n, F, S, own, true, S1, st, h1, fun F1 H1 own1 e1 st1 pu1 => by
      show if true = true then _ else _
      rw [if_pos rfl]
      exact ⟨n, F1, S1, own1, o, S', st1, hf, fun F2 H2 own2 v as e2 st2 t2 pu2 => q F2 H2 own2 v as (e1.trans e2) st2 t2 (pu1.trans (pu2.step (q := pb)))⟩⟩
  · rename_i S1 h1
    exact ⟨n, F, S, own, false, S1, st, h1, fun F1 H1 own1 e1 st1 pu1 => by
      show if false = true then _ else _
      rw [if_neg Bool.false_ne_true]
      exact ⟨n, F1, S1, own1, o, S', st1, hf, fun F2 H2 own2 v as e2 st2 t2 pu2 => q F2 H2 own2 v as (e1.trans e2) st2 t2 (pu1.trans (fun h => pu2 (by simp only [Bool.and_eq_true] at h; exact h.2)))⟩⟩
  · cases hf⟩

/-! ### subscripts -/
theorem atI_rp {F : Hp} {vs : List V} {ds : List PyData} {i : Int} {d : PyData} (r : RpAll K F vs ds) (h : atI ds i = some d) : ∃ v, atI vs i = some v ∧ Rp K F v d := by
  unfold atI at h ⊢
  obtain ⟨j, h1, h2⟩ := Option.bind_eq_some_iff.mp h
  obtain ⟨v, h3, h4⟩ := r.get h2
  exact ⟨v, Option.bind_eq_some_iff.mpr ⟨j, by rw [r.length]; exact h1, h3⟩, h4⟩
theorem ROs.get {F H : Hp} : ∀ {as : List Addr} {vs : List V} {xs : List OV} {i : Nat} {x : OV}, ROs K F H as vs xs → xs[i]? = some x → ∃ v bs, vs[i]? = some v ∧ RO K F H bs v x ∧ ∀ a ∈ bs, a ∈ as
  | _, _, _, _, _, .nil, e => by simp at e
  | _, _, _, 0, _, .cons h _, e => by simp at e; subst e; exact ⟨_, _, rfl, h, fun a m => List.mem_append_left _ m⟩
  | _, _, _, i + 1, _, .cons _ r, e => by
    obtain ⟨v, bs, h1, h2, h3⟩ := ROs.get (i := i) r (by simpa using e)
    exact ⟨v, bs, by simpa using h1, h2, fun a m => List.mem_append_right _ (h3 a m)⟩
def gIx (x y : OV) : Option OV := match y with
  | .fz (.int i) => (match x with
    | .fz (.list ds) => (atI ds i).map OV.fz
    | .fz (.tuple ds) => (atI ds i).map OV.fz
    | .ol xs => (match atI xs i with
      | some (.fz d) => some (.fz d)
      | _ => none)
    | .fz (.str z) => if z.length ≤ sizeLine then (atI z.cps.toList i).map fun c => .fz (.str ⟨#[c]⟩) else none
    | _ => none)
  | _ => none
theorem ox_ix : OpX K (rIx K) gIx := by
  intro n F H σ S own x y o1 o2 as bs o Q st rx ry h he
  unfold gIx at h
  split at h
  · rename_i i
    cases ry.int_v
    split at h
    · rename_i ds
      obtain ⟨d, h1, rfl⟩ := Option.map_eq_some_iff.mp h
      cases rx.rp with
      | lst hl r =>
        obtain ⟨v, h2, h3⟩ := atI_rp r h1
        exact .inl ⟨_, _, i, v, rfl, rfl, SqL.of (st.fh _ _ hl), h2, he.val st h3⟩
    · rename_i ds
      obtain ⟨d, h1, rfl⟩ := Option.map_eq_some_iff.mp h
      cases rx.rp with
      | tup hl r =>
        obtain ⟨v, h2, h3⟩ := atI_rp r h1
        exact .inr (.inl ⟨_, _, i, v, rfl, rfl, Same.sqT st.fh (.inl (.inl hl)), h2, he.val st h3⟩)
    · rename_i xs
      split at h
      · rename_i d h1
        cases h
        obtain ⟨a, bs, vs, rfl, _, hl, r⟩ := rx.ol_inv
        unfold atI at h1
        obtain ⟨j, h2, h3⟩ := Option.bind_eq_some_iff.mp h1
        obtain ⟨v, _, h4, h5, _⟩ := r.get h3
        exact .inl ⟨a, vs, i, v, rfl, rfl, SqL.of hl, Option.bind_eq_some_iff.mpr ⟨j, by rw [r.length]; exact h2, h4⟩, he.val st h5.rp⟩
      · cases h
    · rename_i z
      split at h
      · rename_i hz
        obtain ⟨d, h1, rfl⟩ := Option.map_eq_some_iff.mp h
        cases rx.str_v
        exact .inr (.inr ⟨z, i, d, rfl, rfl, hz, h1, he.val st (.str _)⟩)
      · cases h
    · cases h
  · cases h
theorem d_item (ha : DX X pa a fa) (hb : DX X pb b fb) (hs : PlainIx b := by exact fun _ _ => rfl) : DO X (pa && pb) (.Subscript a b pos) (eBin gIx pb fa fb) := d_ix ix_seq ox_ix ha hb hs
/-! ### slices -/
def cutD {α : Type} (xs : List α) (lo hi : Option Int) : List α := (xs.drop (HT.sIx xs.length 0 lo)).take (HT.sIx xs.length xs.length hi - HT.sIx xs.length 0 lo)
theorem cut_rp {F : Hp} {vs : List V} {ds : List PyData} (lo hi : Option Int) (r : RpAll K F vs ds) : RpAll K F (cutV vs lo hi) (cutD ds lo hi) := by
  unfold cutV cutD
  rw [r.length]
  exact (r.drop _).take _
abbrev EOp := SS → Option (Option Int × SS)
def tOi (K : Frg) (p : Bool) (f : EOp) : TO := fun σ H Q => ∃ n F S own o S', St K n F H σ S own ∧ f S = some (o, S') ∧ ∀ F' H' own', Same F F' → St K n F' H' σ S' own' → Pu p S S' own own' H H' → Q o H'
structure DP (X : Cx) (p : Bool) (e : Option Expr) (f : EOp) : Prop where
  po : PO X e (tOi X.K p f)
theorem _root_.L2.PO.imp {X : Cx} {e : Option Expr} {t t' : TO} (h : PO X e t) (i : ∀ σ H Q, t' σ H Q → t σ H Q) : PO X e t' := ⟨fun pins s σ H Q I q => h.run pins s σ H Q I (i σ H Q q)⟩
def pNo : EOp := fun S => some (none, S)
def pSo (f : EV) : EOp := fun S => match f S with
  | some (.fz (.int i), S') => some (some i, S')
  | _ => none
theorem p_none : DP X true none pNo := ⟨po_none.imp fun σ H Q ⟨n, F, S, own, o, S', st, hf, q⟩ => by
  cases hf
  exact q F H own (Same.refl F) st .refl⟩
theorem p_some (h : DX X p e f) : DP X p (some e) (pSo f) := ⟨(po_some h.pe).imp fun σ H Q ⟨n, F, S, own, o, S', st, hf, q⟩ => by
  unfold pSo at hf
  split at hf
  · rename_i i S1 h1
    cases hf
    refine ⟨n, F, S, own, _, _, st, h1, fun F' H' own' v as e st' r pu => ?_⟩
    cases r.int_v
    exact ⟨i, rfl, q F' H' own' e st' pu⟩
  · cases hf⟩
theorem Rp.scr_inv {F : Hp} : ∀ {v : V} {d : PyData}, Rp K F v d → ∀ ds, d = .dict [(.none, .list ds)] → ∃ a xs, v = .ref a ∧ SqL K F a xs ∧ RpAll K F xs ds
  | _, _, .scr h r, ds, e => by
    cases e
    exact ⟨_, _, rfl, h, r⟩
  | _, _, .dcK (kvs := kvs) h k r, ds, e => by
    cases e
    cases kvs with
    | nil => cases k
    | cons p ps =>
      obtain ⟨k0, v0⟩ := p
      cases k0 with
      | inl i => exact absurd (List.cons.inj k).1 (fun q => PyData.noConfusion q)
      | inr i => exact absurd (List.cons.inj k).1 (fun q => PyData.noConfusion q)
  | _, _, .dcT (kvs := kvs) h k r, ds, e => by
    cases e
    cases kvs with
    | nil => cases k
    | cons p ps =>
      have := (List.cons.inj k).1
      exact absurd this (by simp [kT])
  | _, _, .non, _, e => by cases e
  | _, _, .bl _, _, e => by cases e
  | _, _, .int _, _, e => by cases e
  | _, _, .str _, _, e => by cases e
  | _, _, .lst _ _, _, e => by cases e
  | _, _, .tup _ _, _, e => by cases e
def gSl (x : OV) (lo hi : Option Int) : Option OV := match x with
  | .fz (.list ds) => some (.ol ((cutD ds lo hi).map OV.fz))
  | .fz (.dict [(.none, .list ds)]) => some (.ol ((cutD ds lo hi).map OV.fz))
  | .ol xs => (allFz xs).map fun ds => .ol ((cutD ds lo hi).map OV.fz)
  | .fz (.tuple ds) => some (.fz (.tuple (cutD ds lo hi)))
  | .fz (.str z) => if z.length ≤ sizeLine then some (.fz (.str (cutS z lo hi))) else none
  | _ => none
def eSl (pl ph : Bool) (fe : EV) (fl fh : EOp) : EV := fun S => match fe S with
  | some (x, S1) => if (pl && ph) || x.isFz then (match fl S1 with
    | some (lo, S2) => (match fh S2 with
      | some (hi, S3) => (match gSl x lo hi with
        | some o => some (o, S3)
        | none => none)
      | none => none)
    | none => none) else none
  | none => none
theorem cutD_all {α : Type} (xs : List α) (lo hi : Option Int) (h : HT.sIx xs.length 0 lo = 0 ∧ HT.sIx xs.length xs.length hi = xs.length) : cutD xs lo hi = xs := by
  unfold cutD
  rw [h.1, h.2]
  simp
theorem d_slice {lo hi : Option Expr} {pl ph : Bool} {fl fh : EOp} {p2 : Pos} (he : DX X p e f) (hl : DP X pl lo fl) (hh : DP X ph hi fh) : DO X (p && (pl && ph)) (.Subscript e (.Slice lo hi none p2) pos) (eSl pl ph f fl fh) :=
  ⟨(pe_slice (SlR.or sl_list (SlR.or sl_tupA sl_str)) he.pe hl.po hh.po).imp fun σ H Q ⟨n, F, S, own, o, S', st, hf, q⟩ => by
    unfold eSl at hf
    split at hf
    · rename_i x S1 h1
      split at hf
      · rename_i hx
        split at hf
        · rename_i l S2 h2
          split at hf
          · rename_i u S3 h3
            split at hf
            · rename_i o1 h4
              cases hf
              refine ⟨n, F, S, own, x, S1, st, h1, fun F1 H1 own1 v as e1 st1 r1 pu1 => ?_⟩
              refine ⟨n, F1, S1, own1, l, S2, st1, h2, fun F2 H2 own2 e2 st2 pu2 => ?_⟩
              refine ⟨n, F2, S2, own2, u, S', st2, h3, fun F3 H3 own3 e3 st3 pu3 => ?_⟩
              have r3 := r1.persist (n := n) (σ := σ) (e2.trans e3) hx (pu2.trans pu3)
              have pu := pu1.trans (pu2.trans pu3)
              have he : OpEnd X.K n F3 H3 σ S' own3 o Q := fun F' H' z cs e4 hh4 st4 t4 => q F' H' own3 z cs (((e1.trans e2).trans e3).trans e4) st4 t4 (by
                have := pu.trans (Pu.same (p := true) (S := S') (o := own3) hh4)
                simpa using this)
              unfold gSl at h4
              split at h4
              · rename_i ds
                cases h4
                cases r3.rp with
                | lst hl' rr => exact .inl ⟨_, _, rfl, SqL.of (st3.fh _ _ hl'), end_lst st3 (cut_rp l u rr) he⟩
              · rename_i ds
                cases h4
                obtain ⟨a, xs, rfl, hl', rr⟩ := r3.rp.scr_inv ds rfl
                exact .inl ⟨_, _, rfl, Same.sqL st3.fh hl', end_lst st3 (cut_rp l u rr) he⟩
              · rename_i xs
                obtain ⟨ds, h5, rfl⟩ := Option.map_eq_some_iff.mp h4
                have := allFz_map h5
                subst this
                obtain ⟨a, bs, vs, rfl, _, hl', rr⟩ := r3.ol_inv
                exact .inl ⟨a, vs, rfl, SqL.of hl', end_lst st3 (cut_rp l u rr.rp) he⟩
              · rename_i ds
                cases h4
                cases r3.rp with
                | tup hl' rr =>
                  refine .inr (.inl ⟨_, _, rfl, Same.sqT st3.fh (.inl (.inl hl')), fun hw => ?_, fun _ => end_tup st3 (cut_rp l u rr) he⟩)
                  rw [rr.length] at hw
                  rw [cutD_all ds l u hw] at he
                  exact he.val st3 (.tup hl' rr)
              · rename_i z
                split at h4
                · rename_i hz
                  cases h4
                  cases r3.str_v
                  exact .inr (.inr ⟨z, rfl, hz, he.val st3 (.str _)⟩)
                · cases h4
              · cases h4
            · cases hf
          · cases hf
        · cases hf
      · cases hf
    · cases hf⟩
end
end PD
set_option Elab.async false
set_option linter.all false
set_option maxRecDepth 100000
set_option maxHeartbeats 4000000
namespace PD
open PySem PySem.Spec PyProof.Rows L2

section
variable {X : Cx} {e e2 a b c : Expr} {es : List Expr} {p pa pb pc : Bool} {f fa fb fc : EV} {ga : EA} {pos : Pos} {K : Frg} {ft ft2 ta tb : EB}
/-! ### +, * -/
def gAddX (x y : OV) : Option OV := match x, y with
  | .fz (.int i), .fz (.int j) => some (.fz (.int (i + j)))
  | .fz (.str i), .fz (.str j) => if i.length + j.length ≤ sizeLine then some (.fz (.str (i ++ j))) else none
  | .fz (.tuple i), .fz (.tuple j) => if i.length + j.length ≤ sizeLine then some (.fz (.tuple (i ++ j))) else none
  | _, _ => match itemsL x, itemsL y with
    | some i, some j => if i.length + j.length ≤ sizeLine then some (.ol ((i ++ j).map OV.fz)) else none
    | _, _ => none
def rAddX (K : Frg) : R2 := fun x y H Q => rI0 (fun i j => .int (i + j)) x y H Q ∨ (∃ i j, x = .str i ∧ y = .str j ∧ i.length + j.length ≤ sizeLine ∧ Q (.str (i ++ j)) H) ∨ rCatA K x y H Q ∨ rCat x y H Q
theorem op_addX : OpR X (binaryOp .Add) (rAddX X.K) := OpR.or op_add (OpR.or op_add_str (OpR.or op_catA op_cat))
theorem cat_lists {n : Ent} {F H : Hp} {σ : L2.St} {S : SS} {own : Nat → List Addr} {x y : V} {o1 o2 o : OV} {as bs : List Addr} {Q : VK} (st : St K n F H σ S own) (rx : RO K F H as x o1) (ry : RO K F H bs y o2)
    (h : (match itemsL o1, itemsL o2 with
      | some i, some j => if i.length + j.length ≤ sizeLine then some (OV.ol ((i ++ j).map OV.fz)) else none
      | _, _ => none) = some o) (he : OpEnd K n F H σ S own o Q) : rCat x y H Q := by
  split at h
  · rename_i i j h1 h2
    split at h
    · rename_i hz
      cases h
      obtain ⟨a, xs, rfl, ha, ra⟩ := rx.lst st.fh h1
      obtain ⟨b, ys, rfl, hb, rb⟩ := ry.lst st.fh h2
      exact ⟨a, b, xs, ys, rfl, rfl, ha, hb, by rw [ra.length, rb.length]; exact hz, end_lst st (ra.append rb) he⟩
    · cases h
  · cases h
theorem ox_addX : OpX K (rAddX K) gAddX := by
  intro n F H σ S own x y o1 o2 as bs o Q st rx ry h he
  unfold gAddX at h
  split at h
  · rename_i i j
    cases h
    cases rx.int_v
    cases ry.int_v
    exact .inl ⟨i, j, rfl, rfl, he.val st (.int _)⟩
  · rename_i i j
    split at h
    · rename_i hz
      cases h
      cases rx.str_v
      cases ry.str_v
      exact .inr (.inl ⟨i, j, rfl, rfl, hz, he.val st (.str _)⟩)
    · cases h
  · rename_i i j
    split at h
    · rename_i hz
      cases h
      cases rx.rp with
      | tup ha ra =>
        cases ry.rp with
        | tup hb rb =>
          rename_i xs _ ys
          refine .inr (.inr (.inl ⟨_, _, _, _, rfl, rfl, Same.sqT st.fh (.inl (.inl ha)), Same.sqT st.fh (.inl (.inl hb)), by rw [ra.length, rb.length]; exact hz, fun hx => ?_, fun hx hy => ?_, fun _ _ => end_tup st (ra.append rb) he⟩))
          · have : i = [] := List.length_eq_zero_iff.mp (by rw [← ra.length, hx]; rfl)
            subst this
            exact he.val st (.tup hb rb)
          · have : j = [] := List.length_eq_zero_iff.mp (by rw [← rb.length, hy]; rfl)
            subst this
            rw [List.append_nil] at he
            exact he.val st (.tup ha ra)
    · cases h
  · exact .inr (.inr (.inr (cat_lists st rx ry h he)))
theorem d_add (ha : DX X pa a fa) (hb : DX X pb b fb) : DO X (pa && pb) (.BinOp a .Add b pos) (eBin gAddX pb fa fb) := d_op op_addX ox_addX ha hb
theorem d_sub (ha : DX X pa a fa) (hb : DX X pb b fb) : DO X (pa && pb) (.BinOp a .Sub b pos) (eBin gSub pb fa fb) := d_op op_sub ox_sub ha hb
theorem d_mod (ha : DX X pa a fa) (hb : DX X pb b fb) : DO X (pa && pb) (.BinOp a .Mod b pos) (eBin gMod pb fa fb) := d_op op_mod ox_mod ha hb
theorem d_fdiv (ha : DX X pa a fa) (hb : DX X pb b fb) : DO X (pa && pb) (.BinOp a .FloorDiv b pos) (eBin gDiv pb fa fb) := d_op op_fdivW ox_div ha hb
/-- a product of ints, a list some times -/
def gMulX (x y : OV) : Option OV := match x, y with
  | .fz (.int i), .fz (.int j) => if okMul i j then some (.fz (.int (i * j))) else none
  | x, .fz (.int k) => (match itemsL x with
    | some ds => if okR k && decide (ds.length * k.toNat ≤ sizeLine) then some (.ol ((List.replicate k.toNat ds).flatten.map OV.fz)) else none
    | none => none)
  | _, _ => none
theorem RpAll.rep {F : Hp} {vs : List V} {ds : List PyData} (h : RpAll K F vs ds) : ∀ k : Nat, RpAll K F (List.replicate k vs).flatten (List.replicate k ds).flatten
  | 0 => .nil
  | k + 1 => by
    rw [List.replicate_succ, List.replicate_succ, List.flatten_cons, List.flatten_cons]
    exact h.append (RpAll.rep h k)
def rMulX : R2 := fun x y H Q => rI CMulW (fun i j => .int (i * j)) x y H Q ∨ rRep x y H Q
theorem ox_mulX : OpX K rMulX gMulX := by
  intro n F H σ S own x y o1 o2 as bs o Q st rx ry h he
  unfold gMulX at h
  split at h
  · rename_i i j
    split at h
    · rename_i hc
      cases h
      cases rx.int_v
      cases ry.int_v
      exact .inl ⟨i, j, rfl, rfl, Nat.lt_of_lt_of_le (of_decide_eq_true hc) (by decide), he.val st (.int _)⟩
    · cases h
  · rename_i k _
    split at h
    · rename_i ds h1
      split at h
      · rename_i hk
        cases h
        simp only [Bool.and_eq_true] at hk
        obtain ⟨z1, z2⟩ := of_decide_eq_true hk.1
        obtain ⟨a, xs, rfl, ha, ra⟩ := rx.lst st.fh h1
        cases ry.int_v
        exact .inr ⟨a, k, xs, rfl, rfl, ha, by omega, by omega, by rw [ra.length]; exact of_decide_eq_true hk.2, end_lst st (ra.rep k.toNat) he⟩
      · cases h
    · cases h
  · cases h
theorem d_mul (ha : DX X pa a fa) (hb : DX X pb b fb) : DO X (pa && pb) (.BinOp a .Mult b pos) (eBin gMulX pb fa fb) := d_op (OpR.or op_mulW op_rep) ox_mulX ha hb
def gNeg (x : OV) : Option OV := match x with
  | .fz (.int i) => some (.fz (.int (-i)))
  | _ => none
theorem ux_neg : UnX K (rU fun i => .int (-i)) gNeg := by
  intro n F H σ S own x o1 as o Q st rx h he
  unfold gNeg at h
  split at h
  · cases h
    cases rx.int_v
    exact ⟨_, rfl, he.val st (.int _)⟩
  · cases h
theorem d_neg (ha : DX X pa a fa) : DO X pa (.UnaryOp .USub a pos) (eUn gNeg fa) := d_un un_neg ux_neg ha
def okPow (i j : Int) : Bool := decide (0 ≤ j ∧ j ≤ 1000 ∧ i.natAbs < 2 ^ 64)
def gPow : OV → OV → Option OV := gI okPow fun i j => .int (i ^ j.toNat)
theorem ox_pow : OpX K (rI CPow fun i j => .int (i ^ j.toNat)) gPow := opx_I (fun _ _ h => by
  obtain ⟨h1, h2, h3⟩ := of_decide_eq_true h
  exact ⟨h1, by omega, h3⟩) fun _ _ _ => .int _
theorem d_pow (ha : DX X pa a fa) (hb : DX X pb b fb) : DO X (pa && pb) (.BinOp a .Pow b pos) (eBin gPow pb fa fb) := d_op op_pow ox_pow ha hb
/-! ### comparisons of ints -/
theorem t_lt (ha : DX X pa a fa) (hb : DX X pb b fb) : DT X (pa && pb) (.Compare a [.Lt] [b] pos) (bOf (eBin gLt pb fa fb)) := t_cmp op_lt ox_lt ha hb (nomark _)
theorem t_le (ha : DX X pa a fa) (hb : DX X pb b fb) : DT X (pa && pb) (.Compare a [.LtE] [b] pos) (bOf (eBin gLe pb fa fb)) := t_cmp op_le ox_le ha hb (nomark _)
theorem t_gt (ha : DX X pa a fa) (hb : DX X pb b fb) : DT X (pa && pb) (.Compare a [.Gt] [b] pos) (bOf (eBin gGt pb fa fb)) := t_cmp op_gt ox_gt ha hb (nomark _)
theorem t_ge (ha : DX X pa a fa) (hb : DX X pb b fb) : DT X (pa && pb) (.Compare a [.GtE] [b] pos) (bOf (eBin gGe pb fa fb)) := t_cmp op_ge ox_ge ha hb (nomark _)
theorem t_eq {k : Nat} (hr : Room k X.A) (ha : DX X pa a fa) (hb : DX X pb b fb) : DT X (pa && pb) (.Compare a [.Eq] [b] pos) (bOf (eBin gEq pb fa fb)) := t_cmp (op_eqD hr.units) ox_eq ha hb (nomark _)
theorem t_ne {k : Nat} (hr : Room k X.A) (ha : DX X pa a fa) (hb : DX X pb b fb) : DT X (pa && pb) (.Compare a [.NotEq] [b] pos) (bOf (eBin gNe pb fa fb)) := t_cmp (op_neD hr.units) ox_ne ha hb (nomark _)
theorem t_isN (ha : DX X pa a fa) (hb : DX X pb b fb) : DT X (pa && pb) (.Compare a [.Is] [b] pos) (bOf (eBin gIsN pb fa fb)) := t_cmp op_isN ox_isN ha hb (nomark _)
theorem t_notN (ha : DX X pa a fa) (hb : DX X pb b fb) : DT X (pa && pb) (.Compare a [.IsNot] [b] pos) (bOf (eBin gNotN pb fa fb)) := t_cmp op_notN ox_notN ha hb (nomark _)
theorem d_lt (ha : DX X pa a fa) (hb : DX X pb b fb) : DO X (pa && pb) (.Compare a [.Lt] [b] pos) (eBin gLt pb fa fb) := d_cmp op_lt ox_lt ha hb (nomark _)
theorem d_le (ha : DX X pa a fa) (hb : DX X pb b fb) : DO X (pa && pb) (.Compare a [.LtE] [b] pos) (eBin gLe pb fa fb) := d_cmp op_le ox_le ha hb (nomark _)
theorem d_gt (ha : DX X pa a fa) (hb : DX X pb b fb) : DO X (pa && pb) (.Compare a [.Gt] [b] pos) (eBin gGt pb fa fb) := d_cmp op_gt ox_gt ha hb (nomark _)
theorem d_ge (ha : DX X pa a fa) (hb : DX X pb b fb) : DO X (pa && pb) (.Compare a [.GtE] [b] pos) (eBin gGe pb fa fb) := d_cmp op_ge ox_ge ha hb (nomark _)
/-! ### x in a list or tuple of flat things -/
def flatD : PyData → Bool
  | .none => true
  | .bool _ => true
  | .int _ => true
  | .str _ => true
  | _ => false
def seqX : OV → Option (List PyData)
  | .fz (.list ds) => some ds
  | .fz (.tuple ds) => some ds
  | .ol xs => allFz xs
  | _ => none
theorem RO.seqX {F H : Hp} {as : List Addr} {v : V} {o : OV} {ds : List PyData} (h : RO K F H as v o) (e : Same F H) (hd : PD.seqX o = some ds) : ∃ a vs, v = .ref a ∧ (SqL K H a vs ∨ SqT K H a vs) ∧ RpAll K F vs ds := by
  unfold PD.seqX at hd
  split at hd
  · cases hd
    cases h.rp with | lst h' r => exact ⟨_, _, rfl, .inl (SqL.of (e _ _ h')), r⟩
  · cases hd
    cases h.rp with | tup h' r => exact ⟨_, _, rfl, .inr (Same.sqT e (.inl (.inl h'))), r⟩
  · have := allFz_map hd
    subst this
    obtain ⟨a, bs, vs, rfl, _, h1, h2⟩ := h.ol_inv
    exact ⟨a, vs, rfl, .inl (SqL.of h1), h2.rp⟩
  · cases hd
end
end PD
set_option Elab.async false
set_option linter.all false
set_option maxRecDepth 100000
set_option maxHeartbeats 4000000
namespace PD
open PySem PySem.Spec PyProof.Rows L2

section
variable {X : Cx} {e e2 a b c : Expr} {es : List Expr} {p pa pb pc : Bool} {f fa fb fc : EV} {ga : EA} {pos : Pos} {K : Frg} {ft ft2 ta tb : EB}
theorem Rp.flat {F : Hp} {v : V} {d : PyData} (h : Rp K F v d) (hf : flatD d = true) : flatV v = true := by
  cases h <;> first | rfl | (simp [flatD, scrD] at hf)
theorem Rp.eqF {F : Hp} {v w : V} {d d' : PyData} (h : Rp K F v d) (h' : Rp K F w d') (hf : flatD d = true) (hf' : flatD d' = true) : eqV v w = PyData.eqv d d' := by
  cases h <;> first
    | (exfalso; simp [flatD, scrD] at hf; done)
    | (cases h' <;> first | (exfalso; simp [flatD, scrD] at hf'; done) | (simp only [eqV, PyData.eqv]))
theorem RpAll.flat {F : Hp} : ∀ {vs : List V} {ds : List PyData}, RpAll K F vs ds → ds.all flatD = true → vs.all flatV = true
  | _, _, .nil, _ => rfl
  | _, _, .cons h r, hf => by
    simp only [List.all_cons, Bool.and_eq_true] at hf ⊢
    exact ⟨h.flat hf.1, RpAll.flat r hf.2⟩
theorem RpAll.inF {F : Hp} {x : V} {d : PyData} (hx : Rp K F x d) (hd : flatD d = true) : ∀ {vs : List V} {ds : List PyData}, RpAll K F vs ds → ds.all flatD = true → inV x vs = ds.any fun z => PyData.eqv z d
  | _, _, .nil, _ => rfl
  | _, _, .cons h r, hf => by
    simp only [List.all_cons, Bool.and_eq_true] at hf
    show (eqV _ x || inV x _) = _
    rw [h.eqF hx hf.1 hd, RpAll.inF hx hd r hf.2]
    rfl
def gIn (neg : Bool) (x y : OV) : Option OV := match x, seqX y with
  | .fz d, some ds => if flatD d && ds.all flatD then some (.fz (.bool (if neg then !(ds.any fun z => PyData.eqv z d) else ds.any fun z => PyData.eqv z d))) else none
  | _, _ => none
theorem ox_in {neg : Bool} : OpX K (rIn K neg) (gIn neg) := by
  intro n F H σ S own x y o1 o2 as bs o Q st rx ry h he
  unfold gIn at h
  split at h
  · rename_i d ds h1
    split at h
    · rename_i hf
      simp only [Bool.and_eq_true] at hf
      cases h
      obtain ⟨a, vs, rfl, hs, r⟩ := ry.seqX st.fh h1
      refine ⟨a, vs, rfl, hs, rx.rp.flat hf.1, r.flat hf.2, ?_⟩
      rw [r.inF rx.rp hf.1 hf.2]
      cases neg <;> exact he.val st (.bl _)
    · cases h
  · cases h
theorem t_in (ha : DX X pa a fa) (hb : DX X pb b fb) (hm : behindInMarks .In b = false := by rfl) : DT X (pa && pb) (.Compare a [.In] [b] pos) (bOf (eBin (gIn false) pb fa fb)) := t_cmp op_in_seq ox_in ha hb hm
theorem t_notIn (ha : DX X pa a fa) (hb : DX X pb b fb) (hm : behindInMarks .NotIn b = false := by rfl) : DT X (pa && pb) (.Compare a [.NotIn] [b] pos) (bOf (eBin (gIn true) pb fa fb)) := t_cmp op_notIn_seq ox_in ha hb hm
theorem d_in (ha : DX X pa a fa) (hb : DX X pb b fb) (hm : behindInMarks .In b = false := by rfl) : DO X (pa && pb) (.Compare a [.In] [b] pos) (eBin (gIn false) pb fa fb) := d_cmp op_in_seq ox_in ha hb hm
theorem d_notIn (ha : DX X pa a fa) (hb : DX X pb b fb) (hm : behindInMarks .NotIn b = false := by rfl) : DO X (pa && pb) (.Compare a [.NotIn] [b] pos) (eBin (gIn true) pb fa fb) := d_cmp op_notIn_seq ox_in ha hb hm

/-! ### built-ins of one argument -/
def g1 (g : OV → Option OV) : List OV → Option OV
  | [o] => g o
  | _ => none
def gLen : OV → Option OV
  | .fz (.list ds) => some (.fz (.int ds.length))
  | .fz (.tuple ds) => some (.fz (.int ds.length))
  | .ol xs => some (.fz (.int xs.length))
  | .fz (.str z) => if z.length ≤ sizeLine then some (.fz (.int z.length)) else none
  | _ => none
theorem ROx.one {F H : Hp} {vs : List V} {o : OV} (h : ROx K F H vs [o]) : ∃ v as, vs = [v] ∧ RO K F H as v o := by
  cases h with
  | cons h r => cases r; exact ⟨_, _, rfl, h⟩
theorem cx_len : CallX K (fun xs H Q => ∃ x n, xs = [x] ∧ LenV K x H n ∧ Q (.int n) H) (g1 gLen) := by
  intro n F H σ S own xs os o Q st r hg he
  unfold g1 at hg
  split at hg
  · rename_i o1
    obtain ⟨v, as, rfl, ro⟩ := r.one
    unfold gLen at hg
    split at hg
    · rename_i ds
      cases hg
      cases ro.rp with
      | lst hl rr => exact ⟨_, ds.length, rfl, .inl ⟨_, SqL.of (st.fh _ _ hl), rr.length.symm⟩, he.val st (.int _)⟩
    · rename_i ds
      cases hg
      cases ro.rp with
      | tup hl rr => exact ⟨_, ds.length, rfl, .inr ⟨_, Same.sqT st.fh (.inl (.inl hl)), rr.length.symm⟩, he.val st (.int _)⟩
    · rename_i ys
      cases hg
      obtain ⟨a, bs, vs, rfl, _, h1, h2⟩ := ro.ol_inv
      exact ⟨_, ys.length, rfl, .inl ⟨_, SqL.of h1, h2.length.symm⟩, he.val st (.int _)⟩
    · rename_i z
      split at hg
      · rename_i hz
        cases hg
        cases ro.str_v
        exact ⟨_, z.length, rfl, ⟨hz, rfl⟩, he.val st (.int _)⟩
      · cases hg
    · cases hg
  · cases hg
theorem boot_len' : bootBuiltins "len" = some (.builtin "len") := by decide +kernel
theorem d_len {p' : Pos} (ha : DX X p e f) (hg : Gl X "len") (hm : X.mg "len" = none) (hs : starEach [e] X.env = (false, eval e X.env) :: starEach [] X.env := by rfl) : DO X (p && true) (.Call (.Name "len" p') [e] [] pos) (eCall (g1 gLen) (aCons true f aNil)) :=
  d_callB call_len cx_len hg hm boot_len' (a_cons ha a_nil hs) (he := hs)
def gAbs : OV → Option OV
  | .fz (.int i) => some (.fz (.int (if i < 0 then -i else i)))
  | _ => none
theorem cx_abs : CallX K (fun xs H Q => ∃ i, xs = [.int i] ∧ Q (.int (if i < 0 then -i else i)) H) (g1 gAbs) := by
  intro n F H σ S own xs os o Q st r hg he
  unfold g1 at hg
  split at hg
  · obtain ⟨v, as, rfl, ro⟩ := r.one
    unfold gAbs at hg
    split at hg
    · cases hg
      cases ro.int_v
      exact ⟨_, rfl, he.val st (.int _)⟩
    · cases hg
  · cases hg
theorem d_abs {p' : Pos} (ha : DX X p e f) (hg : Gl X "abs") (hm : X.mg "abs" = none) (hs : starEach [e] X.env = (false, eval e X.env) :: starEach [] X.env := by rfl) : DO X (p && true) (.Call (.Name "abs" p') [e] [] pos) (eCall (g1 gAbs) (aCons true f aNil)) :=
  d_callB call_abs cx_abs hg hm (by decide +kernel) (a_cons ha a_nil hs) (he := hs)
def gInt : OV → Option OV
  | .fz (.int i) => some (.fz (.int i))
  | _ => none
theorem cx_int : CallX K (fun xs H Q => (∃ i, xs = [.int i] ∧ Q (.int i) H) ∨ ∃ k, xs = [.bl k] ∧ Q (.int (if k then 1 else 0)) H) (g1 gInt) := by
  intro n F H σ S own xs os o Q st r hg he
  unfold g1 at hg
  split at hg
  · obtain ⟨v, as, rfl, ro⟩ := r.one
    unfold gInt at hg
    split at hg
    · cases hg
      cases ro.int_v
      exact .inl ⟨_, rfl, he.val st (.int _)⟩
    · cases hg
  · cases hg
theorem d_int1 {p' : Pos} (ha : DX X p e f) (hg : Gl X "int") (hm : X.mg "int" = none) (hs : starEach [e] X.env = (false, eval e X.env) :: starEach [] X.env := by rfl) : DO X (p && true) (.Call (.Name "int" p') [e] [] pos) (eCall (g1 gInt) (aCons true f aNil)) :=
  d_callTy call_int1 cx_int hg hm (by decide +kernel) (a_cons ha a_nil hs) (he := hs)
/-- list(xs), tuple(xs) -/
def gList (o : OV) : Option OV := (seqX o).map fun ds => .ol (ds.map OV.fz)
def gTuple (o : OV) : Option OV := (seqX o).map fun ds => .fz (.tuple ds)
theorem cx_list : CallX K (fun xs H Q => ∃ p ys, xs = [.ref p] ∧ (SqL K H p ys ∨ SqT K H p ys) ∧ ∀ l, H l = none → Q (.ref l) (upd H l (.lst ys))) (g1 gList) := by
  intro n F H σ S own xs os o Q st r hg he
  unfold g1 at hg
  split at hg
  · obtain ⟨v, as, rfl, ro⟩ := r.one
    obtain ⟨ds, h1, rfl⟩ := Option.map_eq_some_iff.mp hg
    obtain ⟨a, vs, rfl, hs, rr⟩ := ro.seqX st.fh h1
    exact ⟨a, vs, rfl, hs, end_lst st rr he⟩
  · cases hg
theorem RO.seqT {F H : Hp} {as : List Addr} {v : V} {o : OV} {ds : List PyData} (h : RO K F H as v o) (e : Same F H) (hd : PD.seqX o = some ds) : ∃ a vs, v = .ref a ∧ RpAll K F vs ds ∧ (SqL K H a vs ∨ (SqT K H a vs ∧ Rp K F (.ref a) (.tuple ds))) := by
  unfold PD.seqX at hd
  split at hd
  · cases hd
    cases h.rp with | lst h' r => exact ⟨_, _, rfl, r, .inl (SqL.of (e _ _ h'))⟩
  · cases hd
    cases h.rp with | tup h' r => exact ⟨_, _, rfl, r, .inr ⟨Same.sqT e (.inl (.inl h')), .tup h' r⟩⟩
  · have := allFz_map hd
    subst this
    obtain ⟨a, bs, vs, rfl, _, h1, h2⟩ := h.ol_inv
    exact ⟨a, vs, rfl, h2.rp, .inl (SqL.of h1)⟩
  · cases hd
theorem cx_tuple : CallX K (fun xs H Q => ∃ p ys, xs = [.ref p] ∧ ((SqL K H p ys ∧ ∀ l, H l = none → Q (.ref l) (upd H l (.tup ys))) ∨ (SqT K H p ys ∧ Q (.ref p) H))) (g1 gTuple) := by
  intro n F H σ S own xs os o Q st r hg he
  unfold g1 at hg
  split at hg
  · obtain ⟨v, as, rfl, ro⟩ := r.one
    obtain ⟨ds, h1, rfl⟩ := Option.map_eq_some_iff.mp hg
    obtain ⟨a, vs, rfl, rr, hs⟩ := ro.seqT st.fh h1
    rcases hs with hs | ⟨hs, rt⟩
    · exact ⟨a, vs, rfl, .inl ⟨hs, end_tup st rr he⟩⟩
    · exact ⟨a, vs, rfl, .inr ⟨hs, he.val st rt⟩⟩
  · cases hg
theorem d_list {p' : Pos} (ha : DX X p e f) (hg : Gl X "list") (hm : X.mg "list" = none) (hs : starEach [e] X.env = (false, eval e X.env) :: starEach [] X.env := by rfl) : DO X (p && true) (.Call (.Name "list" p') [e] [] pos) (eCall (g1 gList) (aCons true f aNil)) :=
  d_callTy call_list_of cx_list hg hm (by decide +kernel) (a_cons ha a_nil hs) (he := hs)
theorem d_tuple {p' : Pos} (ha : DX X p e f) (hg : Gl X "tuple") (hm : X.mg "tuple" = none) (hs : starEach [e] X.env = (false, eval e X.env) :: starEach [] X.env := by rfl) : DO X (p && true) (.Call (.Name "tuple" p') [e] [] pos) (eCall (g1 gTuple) (aCons true f aNil)) :=
  d_callTy call_tuple_of cx_tuple hg hm (by decide +kernel) (a_cons ha a_nil hs) (he := hs)
/-- list(range(n)), tuple(range(n)) -/
def gLR (f : EV) : EV := fun S => match f S with
  | some (.fz (.int j), S1) => if okR j && decide (j.toNat ≤ 2 ^ 24) then some (.ol ((rangeD 0 j.toNat).map OV.fz), S1) else none
  | _ => none
def gTR (f : EV) : EV := fun S => match f S with
  | some (.fz (.int j), S1) => if okR j && decide (j.toNat ≤ 2 ^ 24) then some (.fz (.tuple (rangeD 0 j.toNat)), S1) else none
  | _ => none
theorem rg_rp {F : Hp} (j : Int) : RpAll K F (rgV 0 j) (rangeD 0 j.toNat) := by
  unfold rgV rangeD
  rw [show j - 0 = j by omega]
  have key : ∀ l : List Nat, RpAll K F (l.map fun (i : Nat) => V.int (0 + (i : Int))) (l.map fun (i : Nat) => PyData.int (0 + (i : Int))) := fun l => by
    induction l with
    | nil => exact .nil
    | cons x l ih => exact .cons (.int _) ih
  exact key _
theorem d_listR {p1 p2 q1 : Pos} (ha : DX X p e f) (hc : X.calm = true) (hg : Gl X "list") (hm : X.mg "list" = none) (hg2 : Gl X "range") (hm2 : X.mg "range" = none) (na : starEach [e] X.env = (false, eval e X.env) :: starEach [] X.env := by rfl)
    (na2 : starEach [.Call (.Name "range" p2) [e] [] q1] X.env = (false, eval (.Call (.Name "range" p2) [e] [] q1) X.env) :: starEach [] X.env := by rfl) : DO X p (.Call (.Name "list" p1) [.Call (.Name "range" p2) [e] [] q1] [] pos) (gLR f) :=
  ⟨(pe_listRg hc hg hm (prg_1 hg2 hm2 ha.pe na) na2).imp fun σ H Q ⟨n, F, S, own, o, S', st, hf, q⟩ => by
    unfold gLR at hf
    split at hf
    · rename_i j S1 h1
      split at hf
      · rename_i hj
        cases hf
        simp only [Bool.and_eq_true] at hj
        obtain ⟨z1, z2⟩ := of_decide_eq_true hj.1
        refine ⟨n, F, S, own, _, _, st, h1, fun F1 H1 own1 v as e1 st1 r1 pu1 => ?_⟩
        cases r1.int_v
        refine ⟨j, rfl, ⟨by omega, by omega, z1, z2, by rw [show j - 0 = j by omega]; exact of_decide_eq_true hj.2⟩, end_lst st1 (rg_rp j) fun F' H' z cs e4 hh4 st4 t4 => q F' H' own1 z cs (e1.trans e4) st4 t4 (by
          have := pu1.trans (Pu.same (p := true) (S := S') (o := own1) hh4)
          simpa using this)⟩
      · cases hf
    · cases hf⟩
theorem d_tupleR {p1 p2 q1 : Pos} (ha : DX X p e f) (hc : X.calm = true) (hg : Gl X "tuple") (hm : X.mg "tuple" = none) (hg2 : Gl X "range") (hm2 : X.mg "range" = none) (na : starEach [e] X.env = (false, eval e X.env) :: starEach [] X.env := by rfl)
    (na2 : starEach [.Call (.Name "range" p2) [e] [] q1] X.env = (false, eval (.Call (.Name "range" p2) [e] [] q1) X.env) :: starEach [] X.env := by rfl) : DO X p (.Call (.Name "tuple" p1) [.Call (.Name "range" p2) [e] [] q1] [] pos) (gTR f) :=
  ⟨(pe_tupRg hc hg hm (prg_1 hg2 hm2 ha.pe na) na2).imp fun σ H Q ⟨n, F, S, own, o, S', st, hf, q⟩ => by
    unfold gTR at hf
    split at hf
    · rename_i j S1 h1
      split at hf
      · rename_i hj
        cases hf
        simp only [Bool.and_eq_true] at hj
        obtain ⟨z1, z2⟩ := of_decide_eq_true hj.1
        refine ⟨n, F, S, own, _, _, st, h1, fun F1 H1 own1 v as e1 st1 r1 pu1 => ?_⟩
        cases r1.int_v
        refine ⟨j, rfl, ⟨by omega, by omega, z1, z2, by rw [show j - 0 = j by omega]; exact of_decide_eq_true hj.2⟩, end_tup st1 (rg_rp j) fun F' H' z cs e4 hh4 st4 t4 => q F' H' own1 z cs (e1.trans e4) st4 t4 (by
          have := pu1.trans (Pu.same (p := true) (S := S') (o := own1) hh4)
          simpa using this)⟩
      · cases hf
    · cases hf⟩
/-- gcd(a, b) -/
def gGcd : List OV → Option OV
  | [.fz (.int a), .fz (.int b)] => some (.fz (.int ((Nat.gcd a.natAbs b.natAbs : Nat) : Int)))
  | _ => none
theorem cx_gcd : CallX K rGcd gGcd := by
  intro n F H σ S own xs os o Q st r hg he
  unfold gGcd at hg
  split at hg
  · cases hg
    cases r with
    | cons h1 r =>
      obtain ⟨v, as, rfl, h2⟩ := r.one
      cases h1.int_v
      cases h2.int_v
      exact ⟨_, _, rfl, he.val st (.int _)⟩
  · cases hg
theorem d_gcd {x : Str} {p' : Pos} (hg : Gl X x) (hm : X.mg x = some (.builtin "math.gcd")) (ha : DA X pa (e :: es) ga) (hdb : (x == ("__debug__" : Str)) = false := by decide)
    (he : starEach (e :: es) X.env = (false, eval e X.env) :: starEach es X.env := by rfl) (hpl : (backTo pos (starEach es X.env)).any (·.1) = false := by rfl) : DO X pa (.Call (.Name x p') (e :: es) [] pos) (eCall gGcd ga) :=
  ⟨(pe_callBfun cr_gcd hg hm ha.pa hdb he hpl).imp (call_imp cx_gcd)⟩

/-! ### repr -/
def rRepr (K : Frg) : List V → Hp → VK → Prop := fun vs H Q => ∃ v d, vs = [v] ∧ Rp K H v d ∧ d.showable = true ∧ d.canLay0 = true ∧ d.depth ≤ 64 ∧ d.shown.length ≤ sizeLine ∧ Q (.str d.shown) H
theorem call_reprD {k : Nat} (hg : X.A.guards = some []) (hr : Room k X.A) : CallR X (.builtin "repr") (rRepr X.K) := by
  intro pins s σ H vs us Q I r h
  obtain ⟨v, d, rfl, rp, hs, hc, hd, hz, q⟩ := h
  obtain ⟨u, rfl, rv⟩ := vals1 r
  obtain ⟨as, rd⟩ := Dp.reads I d v u (rp.dp hc) rv
  cases rp with
  | int i =>
    obtain ⟨t, rfl⟩ := rv
    exact PySem.P.repr_of_int (by simpa [PyData.showable] using hs) ⟨.str _, H, I.tok _, ⟨_, rfl⟩, by simpa [PyData.shown] using q⟩
  | lst h1 h2 =>
    cases rv
    exact repr_of_reads' rd hs (fun z => by rw [PyData.hasDict_of_canLay _ hc] at z; cases z) hg (by have := hr.un; omega) (fun _ _ e => e) (fun h' t tk hk => ⟨.str _, H, I.kept hk, ⟨_, rfl⟩, q⟩) hz
  | tup h1 h2 =>
    cases rv
    exact repr_of_reads' rd hs (fun z => by rw [PyData.hasDict_of_canLay _ hc] at z; cases z) hg (by have := hr.un; omega) (fun _ _ e => e) (fun h' t tk hk => ⟨.str _, H, I.kept hk, ⟨_, rfl⟩, q⟩) hz
  | non =>
    cases rv
    exact PySem.P.repr_of_none ⟨.str _, H, I.tok _, ⟨_, rfl⟩, by simpa [PyData.shown] using q⟩
  | bl b =>
    cases rv
    exact PySem.P.repr_of_bool ⟨.str _, H, I.tok _, ⟨_, rfl⟩, by simpa [PyData.shown] using q⟩
  | str x =>
    obtain ⟨t, rfl⟩ := rv
    exact PySem.P.repr_of_str ⟨.str _, H, I.tok _, ⟨_, rfl⟩, by simpa [PyData.shown] using q⟩ (by simpa [PyData.shown] using hz)
  | scr _ _ => simp [PyData.canLay0, scrD] at hc
  | dcK _ _ _ => simp [PyData.canLay0] at hc
  | dcT _ _ _ => simp [PyData.canLay0] at hc
/-- repr of data without a dict, of at most so many signs -/
def okRepr (d : PyData) : Bool := d.showable && (d.canLay0 && (decide (d.depth ≤ 64) && decide (d.shown.length ≤ sizeLine)))
def gRepr (o : OV) : Option OV := if okRepr o.erase then some (.fz (.str o.erase.shown)) else none
theorem cx_repr : CallX K (rRepr K) (g1 gRepr) := by
  intro n F H σ S own xs os o Q st r hg he
  unfold g1 at hg
  split at hg
  · obtain ⟨v, as, rfl, ro⟩ := r.one
    unfold gRepr at hg
    split at hg
    · rename_i hk
      cases hg
      simp only [okRepr, Bool.and_eq_true] at hk
      exact ⟨v, _, rfl, ro.rpH st.fh, hk.1, hk.2.1, of_decide_eq_true hk.2.2.1, of_decide_eq_true hk.2.2.2, he.val st (.str _)⟩
    · cases hg
  · cases hg
theorem d_repr {k : Nat} {p' : Pos} (hgd : X.A.guards = some []) (hr : Room k X.A) (ha : DX X p e f) (hg : Gl X "repr") (hm : X.mg "repr" = none) (hs : starEach [e] X.env = (false, eval e X.env) :: starEach [] X.env := by rfl) : DO X (p && true) (.Call (.Name "repr" p') [e] [] pos) (eCall (g1 gRepr) (aCons true f aNil)) :=
  d_callB (call_reprD hgd hr) cx_repr hg hm (by decide +kernel) (a_cons ha a_nil hs) (he := hs)
end
end PD
set_option Elab.async false
set_option linter.all false
set_option maxRecDepth 100000
set_option maxHeartbeats 4000000
namespace PD
open PySem PySem.Spec PyProof.Rows L2
open PySem.W (EachIs AllAlike Sortable dataLe alike)

section
variable {X : Cx} {e e2 a b c : Expr} {es : List Expr} {p pa pb pc : Bool} {f fa fb fc : EV} {ga : EA} {pos : Pos} {K : Frg} {ft ft2 ta tb : EB}
def isTupD : PyData → Bool
  | .tuple (_ :: _) => true
  | _ => false
def isOthD : PyData → Bool
  | .none => false
  | .tuple _ => false
  | _ => true
/-- data that can be sorted -/
def okSort (ds : List PyData) : Bool := ds.all (fun d => d.canLay0 && decide (d.depth ≤ 64)) && (ds.all (fun d => ds.all fun d' => alike d d') && ((ds.all isTupD || ds.all isOthD) && decide (ds.length ≤ sizeLine)))
structure OkSort (ds : List PyData) : Prop where
  lay : ∀ d ∈ ds, d.canLay0 = true ∧ d.depth ≤ 64
  al : AllAlike ds
  so : Sortable ds
  sz : ds.length ≤ sizeLine
theorem isTupD_ok {d : PyData} (h : isTupD d = true) : ∃ x r, d = .tuple (x :: r) := by
  unfold isTupD at h
  split at h
  · exact ⟨_, _, rfl⟩
  · cases h
theorem isOthD_ok {d : PyData} (h : isOthD d = true) : d ≠ .none ∧ ∀ xs, d ≠ .tuple xs := by
  cases d <;> first | (simp [isOthD] at h; done) | exact ⟨fun z => (by cases z), fun xs z => (by cases z)⟩
theorem okSort_ok {ds : List PyData} (h : okSort ds = true) : OkSort ds := by
  simp only [okSort, Bool.and_eq_true, List.all_eq_true, Bool.or_eq_true, decide_eq_true_eq] at h
  obtain ⟨h1, h2, h3, h4⟩ := h
  refine ⟨fun d hd => h1 d hd, fun d hd d' hd' => h2 d hd d' hd', ?_, h4⟩
  rcases h3 with h3 | h3
  · exact .inl fun d hd => isTupD_ok (h3 d hd)
  · exact .inr fun d hd => isOthD_ok (h3 d hd)
/-- the values in the order of their data -/
def srtV (vs : List V) (ds : List PyData) : List V := ((vs.zip ds).mergeSort (dataLe false (·.2))).map (·.1)
def srtD (ds : List PyData) : List PyData := ds.mergeSort (dataLe false fun d => d)
theorem RpAll.of_zip {F : Hp} : ∀ (l : List (V × PyData)), (∀ q ∈ l, Rp K F q.1 q.2) → RpAll K F (l.map (·.1)) (l.map (·.2))
  | [], _ => .nil
  | q :: l, h => .cons (h q List.mem_cons_self) (RpAll.of_zip l fun q hq => h q (List.mem_cons_of_mem _ hq))
theorem RpAll.zip {F : Hp} : ∀ {vs : List V} {ds : List PyData}, RpAll K F vs ds → ∀ q ∈ vs.zip ds, Rp K F q.1 q.2
  | _, _, .nil, q, h => by cases h
  | _, _, .cons h r, q, hq => by
    rw [List.zip_cons_cons] at hq
    rcases List.mem_cons.mp hq with e | hq
    · subst e; exact h
    · exact RpAll.zip r q hq
theorem srt_rp {F : Hp} {vs : List V} {ds : List PyData} (r : RpAll K F vs ds) : RpAll K F (srtV vs ds) (srtD ds) := by
  have hl := r.length
  have e : srtD ds = ((vs.zip ds).mergeSort (dataLe false (·.2))).map (·.2) := by
    have z := PySem.W.sort_maps (r := dataLe false (fun q : V × PyData => q.2)) (s := dataLe false fun d => d) (fun q : V × PyData => q.2) (l := vs.zip ds) fun _ _ _ _ => rfl
    rw [z, List.map_snd_zip (by omega)]
    rfl
  rw [e]
  exact RpAll.of_zip _ fun q hq => r.zip q ((List.mergeSort_perm _ _).mem_iff.mp hq)
theorem each_vals : ∀ {vs : List V} {ds : List PyData} {us : List Value}, vs.length = ds.length → Vals vs us → EachIs (fun u (q : V × PyData) => RelV q.1 u) us (vs.zip ds)
  | [], [], _, _, .nil => .nil
  | v :: vs, d :: ds, _, hl, .cons h r => .cons h (each_vals (by simpa using hl) r)
theorem vals_each : ∀ {us : List Value} {l : List (V × PyData)}, EachIs (fun u (q : V × PyData) => RelV q.1 u) us l → Vals (l.map (·.1)) us
  | _, _, .nil => .nil
  | _, _, .cons h r => .cons h (vals_each r)
section
variable {pins : List (Addr × Obj)} {s : Shared} {σ : L2.St} {H : Hp}
theorem each_reads (I : Inv X pins σ H s) : ∀ {vs : List V} {ds : List PyData} {us : List Value}, RpAll X.K H vs ds → (∀ d ∈ ds, d.canLay0 = true) → Vals vs us → EachIs (fun u (q : V × PyData) => ∃ as, Reads s.heap u q.2 as) us (vs.zip ds)
  | _, _, _, .nil, _, .nil => .nil
  | _, _, _, .cons h r, hc, .cons h' r' => .cons (Dp.reads I _ _ _ (h.dp (hc _ List.mem_cons_self)) h') (each_reads I r (fun d hd => hc d (List.mem_cons_of_mem _ hd)) r')
theorem zip_snd {vs : List V} {ds : List PyData} (h : vs.length = ds.length) : (vs.zip ds).map (fun q => q.2) = ds := List.map_snd_zip (by omega)
def rSrt (K : Frg) : List V → Hp → VK → Prop := fun xs H Q => ∃ a vs ds, xs = [.ref a] ∧ (SqL K H a vs) ∧ RpAll K H vs ds ∧ OkSort ds ∧ ∀ p, H p = none → Q (.ref p) (upd H p (.lst (srtV vs ds)))
theorem call_sortedG {k : Nat} (hr : Room k X.A) : CallR X (.builtin "sorted") (rSrt X.K) := by
  intro pins s σ H xs us Q I r h
  obtain ⟨a, vs, ds, rfl, hq, rp, ok, q⟩ := h
  obtain ⟨u, rfl, rx⟩ := vals1 r
  cases rx
  obtain ⟨its, r', pl, hz⟩ := I.list hq
  have hl := rp.length
  have el : (vs.zip ds).length = ds.length := by rw [List.length_zip]; omega
  refine PySem.W.sorted_data (R := fun u (q : V × PyData) => RelV q.1 u) (bs := vs.zip ds) (enc := fun q => q.2) pl.isList (each_vals hl r') (each_reads I rp (fun d hd => (ok.lay d hd).1) r') (by rw [zip_snd hl]; exact ok.al) (by rw [zip_snd hl]; exact ok.so) (by rw [el]; exact ok.sz) (fun b hb => ?_) fun out ho eo => ?_
  · have := (ok.lay b.2 (List.of_mem_zip hb).2).2
    have := hr.un
    omega
  · obtain ⟨c, hc⟩ := PyProof.Rows.sortedAll_at s.heap its out.toArray
    have I1 := I.laid (a := s.heap.objs.size + 1) (o := .lst (srtV vs ds)) (t' := s.toks) (h' := PyProof.Rows.sortedAll s.heap its out.toArray) (fun b o e => PyProof.Rows.sortedAll_old e) (by omega)
      (show ObjOk X.prog X.w _ _ _ (.lst (srtV vs ds)) from ⟨by unfold srtV; rw [List.length_map, List.length_mergeSort, el]; exact ok.sz, out, c, vals_each eo, by simpa using hc⟩)
    exact ⟨.ref (s.heap.objs.size + 1), _, I1, rfl, q _ (I.hok.fresh (by omega))⟩
end
def gSorted (o : OV) : Option OV := match seqX o with
  | some ds => if okSort ds then some (.ol ((srtD ds).map OV.fz)) else none
  | none => none
/-- sorted(xs) of a list -/
def isLst : OV → Bool
  | .ol _ => true
  | .fz (.list _) => true
  | _ => false
theorem RO.seqL {F H : Hp} {as : List Addr} {v : V} {o : OV} {ds : List PyData} (h : RO K F H as v o) (e : Same F H) (hi : isLst o = true) (hd : PD.seqX o = some ds) : ∃ a vs, v = .ref a ∧ RpAll K F vs ds ∧ SqL K H a vs := by
  unfold PD.seqX at hd
  split at hd
  · cases hd
    cases h.rp with | lst h' r => exact ⟨_, _, rfl, r, SqL.of (e _ _ h')⟩
  · simp [isLst] at hi
  · have := allFz_map hd
    subst this
    obtain ⟨a, bs, vs, rfl, _, h1, h2⟩ := h.ol_inv
    exact ⟨a, vs, rfl, h2.rp, SqL.of h1⟩
  · cases hd
def gSortL (o : OV) : Option OV := if isLst o then gSorted o else none
theorem cx_sortL : CallX K (rSrt K) (g1 gSortL) := by
  intro n F H σ S own xs os o Q st r hg he
  unfold g1 at hg
  split at hg
  · obtain ⟨v, as, rfl, ro⟩ := r.one
    unfold gSortL at hg
    split at hg
    · rename_i hi
      unfold gSorted at hg
      split at hg
      · rename_i ds h1
        split at hg
        · rename_i hk
          cases hg
          obtain ⟨a, vs, rfl, rr, hs⟩ := ro.seqL st.fh hi h1
          exact ⟨a, vs, ds, rfl, hs, rr.mono st.fh, okSort_ok hk, end_lst st (srt_rp rr) he⟩
        · cases hg
      · cases hg
    · cases hg
  · cases hg
theorem d_sortL {k : Nat} {p' : Pos} (hr : Room k X.A) (ha : DX X p e f) (hg : Gl X "sorted") (hm : X.mg "sorted" = none) (hs : starEach [e] X.env = (false, eval e X.env) :: starEach [] X.env := by rfl) : DO X (p && true) (.Call (.Name "sorted" p') [e] [] pos) (eCall (g1 gSortL) (aCons true f aNil)) :=
  d_callB (call_sortedG hr) cx_sortL hg hm (by decide +kernel) (a_cons ha a_nil hs) (he := hs)

/-! ### sorted(d) of a dict with int keys -/
def rSrtD : List V → Hp → VK → Prop := fun xs H Q => ∃ (a : Addr) (kvs : List (Key × V)) (ks : List Int), xs = [.ref a] ∧ Rd H a (.dK kvs) ∧ kvs.map (·.1) = ks.map Sum.inl ∧
    ∀ p, H p = none → Q (.ref p) (upd H p (.lst ((ks.mergeSort fun a b => decide (a ≤ b)).map V.int)))
theorem each_ints : ∀ {us : List Value} {ks : List Int}, IntsAre us ks → EachIs (fun u (k : Int) => ∃ t, u = Value.int k t) us ks
  | _, _, .nil => .nil
  | _, _, .cons _ t r => .cons ⟨t, rfl⟩ (each_ints r)
theorem ints_vals : ∀ {us : List Value} {ks : List Int}, EachIs (fun u (k : Int) => ∃ t, u = Value.int k t) us ks → Vals (ks.map V.int) us
  | _, _, .nil => .nil
  | _, _, .cons h r => .cons h (ints_vals r)
theorem call_sortedDI' {k : Nat} (hr : Room k X.A) (hcalm : X.calm = true) : CallR X (.builtin "sorted") rSrtD := by
  intro pins s σ H xs us Q I r q
  obtain ⟨a, kvs, ks, ex, hd, hks, q⟩ := q
  subst ex
  obtain ⟨u, eu, rx⟩ := vals1 r
  subst eu
  cases rx
  obtain ⟨z, lo, vs, rel, dd⟩ := dk_rd I.hok hd
  obtain ⟨ep, hat⟩ := dd.dictAt
  have hkeys : vs.map (·.1) = ks.map Sum.inl := rel.keys.symm.trans hks
  have hl : vs.length = ks.length := by
    have e := congrArg List.length hkeys
    rw [List.length_map, List.length_map] at e
    exact e
  have h16 : vs.length ≤ sizeLine := by rw [← rel.length]; exact z
  refine Calls.call_function_entry PyProof.Rows.kind_sorted PyProof.Rows.plain_sorted PyProof.Rows.entry_sorted (PyProof.Rows.args_sorted1 _) ?_
  unfold Builtin.«sorted»
  refine wpAny_bind (m := checkCount "sorted" 1 1 _) (wpAny_pure ?_)
  refine wpAny_bind (PySem.W.kdu_collect (A := X.A.in1) (PySem.W.kdl_dict (knd := mixKind X.prog X.w) (kvs := vs) (ep := ep) lo) (I.ok.hd hcalm) hat h16 fun h' tk acc hk hacc => ?_)
  have hal : acc.toList.length = ks.length := by rw [Array.length_toList, hacc.1, hl]
  have hS : IntsAre acc.toList ks := ints_each hal fun j v e => by
    obtain ⟨k, x, e1, e2⟩ := hacc.2 j v (by rw [← Array.getElem?_toList]; exact e)
    have e3 : (vs.map (·.1))[j]? = some k := by rw [List.getElem?_map, e1]; rfl
    rw [hkeys, List.getElem?_map] at e3
    cases e4 : ks[j]? with
    | none => rw [e4] at e3; cases e3
    | some y =>
      rw [e4] at e3
      have e5 : Sum.inl y = k := Option.some.inj e3
      subst e5
      rcases keyIs_shape (show keyIs (Sum.inl y) v = true from e2) with ⟨i, t, ek, ev⟩ | ⟨z, t, ek, ev⟩
      · cases ek
        exact ⟨y, t, rfl, ev⟩
      · cases ek
  have I1 : Inv X pins σ H { s with heap := h', toks := tk } := I.kept hk
  refine wpAny_bind (wpAny_newList ?_ (by rw [hal, ← hl]; exact h16))
  have hoL : (h'.push (seqObj "list" acc.toList.toArray 0)).get? h'.objs.size = some (seqObj "list" acc.toList.toArray 0) := Heap.get?_push_size _ rfl
  show wpAny _ _ _ _ _ { s with heap := h'.push (seqObj "list" acc.toList.toArray 0), toks := tk }
  have eI := each_ints hS
  have fin : ∀ out : List Value, EachIs (fun u (k : Int) => ∃ t, u = Value.int k t) out (ks.mergeSort (dataLe false fun k => PyData.int k)) →
      EP X pins σ Q (.ref h'.objs.size) { s with heap := PyProof.Rows.sortedHeap (h'.push (seqObj "list" acc.toList.toArray 0)) h'.objs.size acc.toList out.toArray, toks := tk } := fun out eo => by
    obtain ⟨e', he'⟩ := PyProof.Rows.sortedHeap_at (vs := acc.toList) (out := out.toArray) hoL
    rw [PySem.W.dataLe_int (fun k : Int => k)] at eo
    refine ⟨.ref h'.objs.size, _, I1.laid (t' := tk) (fun b u e => ?_) (Nat.le_refl _)
      (show ObjOk X.prog X.w _ _ _ (.lst ((ks.mergeSort fun a b => decide (a ≤ b)).map V.int)) from ⟨by rw [List.length_map, List.length_mergeSort, ← hl]; exact h16, out, e', ints_vals eo, he'⟩), rfl, q _ (I1.hok.fresh (Nat.le_refl _))⟩
    have hb : b < h'.objs.size := Heap.lt_size e
    rw [PyProof.Rows.sortedHeap_old (Nat.ne_of_lt hb) (by rw [size_push']; exact Nat.lt_succ_of_lt hb)]
    exact Heap.get?_push_of_some _ e
  have hA : X.A.units + 200 < cLine := by have := hr.un; omega
  refine wpAny_bind (wpAny_holding (PySem.W.list_sort_data (A := X.A.in1) (s := { s with heap := h'.push (seqObj "list" acc.toList.toArray 0), toks := tk }) (R := fun u (k : Int) => ∃ t, u = Value.int k t) (enc := fun k : Int => PyData.int k) hoL eI
    (eI.mono fun u k ⟨t, e⟩ => ⟨[], by rw [e]; exact .int _ _, by simp⟩) (AllAlike.of fun b b' => by simp [alike]) (Sortable.others fun b => ⟨fun z => (by cases z), fun xs z => (by cases z)⟩) (by rw [← hl]; exact h16) (fun b hb => ?_) fun out ho eo => ?_))
  · show X.A.units + 1 + 1 + (PyData.int b).depth < cLine
    simp only [PyData.depth]
    omega
  · exact wpAny_pure ⟨_, rfl, fin out eo⟩
def keysI : List Key → Option (List Int)
  | [] => some []
  | .inl i :: ks => (keysI ks).map (i :: ·)
  | .inr _ :: _ => none
theorem keysI_ok : ∀ {ks : List Key} {is : List Int}, keysI ks = some is → ks = is.map Sum.inl
  | [], _, h => by cases h; rfl
  | .inl i :: ks, is, h => by
    simp only [keysI, Option.map_eq_some_iff] at h
    obtain ⟨js, h1, rfl⟩ := h
    rw [keysI_ok h1]; rfl
  | .inr _ :: _, _, h => by cases h
@[simp] theorem keysI_map : ∀ is : List Int, keysI (is.map Sum.inl) = some is
  | [] => rfl
  | i :: is => by simp [keysI, keysI_map is]
/-- sorted(d) of an own dict with int keys -/
def gSortK : OV → Option OV
  | .ok ks _ => (keysI ks).map fun is => .ol (((is.mergeSort fun a b => decide (a ≤ b)).map PyData.int).map OV.fz)
  | _ => none
theorem cx_sortK : CallX K rSrtD (g1 gSortK) := by
  intro n F H σ S own xs os o Q st r hg he
  unfold g1 at hg
  split at hg
  · obtain ⟨v, as, rfl, ro⟩ := r.one
    unfold gSortK at hg
    split at hg
    · rename_i ks _
      obtain ⟨is, h1, rfl⟩ := Option.map_eq_some_iff.mp hg
      cases ro with
      | @ok a as kvs _ _ h2 h3 h4 => exact ⟨a, kvs, is, rfl, .inl h2, h3.trans (keysI_ok h1), end_lst st (RpAll.ints _) he⟩
    · cases hg
  · cases hg
theorem d_sortK {k : Nat} {p' : Pos} (hr : Room k X.A) (hcalm : X.calm = true) (ha : DX X p e f) (hg : Gl X "sorted") (hm : X.mg "sorted" = none) (hs : starEach [e] X.env = (false, eval e X.env) :: starEach [] X.env := by rfl) : DO X (p && true) (.Call (.Name "sorted" p') [e] [] pos) (eCall (g1 gSortK) (aCons true f aNil)) :=
  d_callB (call_sortedDI' hr hcalm) cx_sortK hg hm (by decide +kernel) (a_cons ha a_nil hs) (he := hs)

/-! ### min, max of a list -/
open PySem.W (minD maxD AlikeAll argBest_fold iter_listW iter_tupleW cmpIn_lt cmpIn_gt readsAll_len moved_old)
def notNon : PyData → Bool
  | .none => false
  | _ => true
def okMin (ds : List PyData) : Bool := ds.all (fun d => d.canLay0 && notNon d) && (ds.all (fun d => ds.all fun d' => alike d d') && decide (PyData.depthAll ds ≤ 64))
structure OkMin (ds : List PyData) : Prop where
  lay : ∀ d ∈ ds, d.canLay0 = true
  al : AlikeAll ds
  dp : PyData.depthAll ds ≤ 64
theorem okMin_ok {ds : List PyData} (h : okMin ds = true) : OkMin ds := by
  simp only [okMin, Bool.and_eq_true, List.all_eq_true, decide_eq_true_eq] at h
  obtain ⟨h1, h2, h3⟩ := h
  exact ⟨fun d hd => (h1 d hd).1, ⟨fun d hd d' hd' => h2 d hd d' hd', fun d hd e => by have := (h1 d hd).2; rw [e] at this; cases this⟩, h3⟩
section
variable {prog : Program} {w : World} {A : Around} {E : Value → Shared → Prop} {s : Shared} {l : Addr} {vs : Array Value} {x : PyData} {xs : List PyData} {as : List Addr} {Q : Value → Shared → Prop}
theorem min_at (hh : A.handled = none) (hl : s.heap.IsList l vs ∨ s.heap.IsTuple l vs) (hr : ReadsAll s.heap vs.toList (x :: xs) as) (ha : AlikeAll (x :: xs)) (hu : A.units + 1 + PyData.depthAll (x :: xs) < cLine)
    (h : ∀ (i : Nat) v h' tk, vs[i]? = some v → (x :: xs).getD i .none = minD x xs → (∀ b o, s.heap.get? b = some o → h'.get? b = some o) → Q v { s with heap := h', toks := tk }) :
    wpAny (model prog w) A (call (.builtin "min") [.ref l]) Q E s := by
  have hn : vs.size = xs.length + 1 := readsAll_len hr
  have e1 : vs.size - 1 = xs.length := by omega
  have e2 := (argBest_fold PySem.W.dataLt PyData.none x xs xs.length (Nat.le_refl _)).2
  rw [List.take_length] at e2
  rcases hl with hl | hl
  · refine call_min_walkH (iter_listW (A := A.in1) hh hl fun s₂ e W st hfp hw hk => ?_)
    refine ⟨_, _, _, _, _, _, _, s.heap, _, rfl, W, st, hfp, by omega, hw, hk, cmpIn_lt (A := A.in1) hr ha (by show A.units + 1 + _ < _; exact hu), fun v s' hP m => ?_⟩
    obtain ⟨h', tk, rfl, hk'⟩ := moved_old e rfl m
    exact h _ v h' tk hP (by rw [e1]; exact e2) hk'
  · refine call_min_walkH (iter_tupleW (A := A.in1) hh hl fun s₂ e W st hfp hw hk => ?_)
    refine ⟨_, _, _, _, _, _, _, s.heap, _, rfl, W, st, hfp, by omega, hw, hk, cmpIn_lt (A := A.in1) hr ha (by show A.units + 1 + _ < _; exact hu), fun v s' hP m => ?_⟩
    obtain ⟨h', tk, rfl, hk'⟩ := moved_old e rfl m
    exact h _ v h' tk hP (by rw [e1]; exact e2) hk'
theorem max_at (hh : A.handled = none) (hl : s.heap.IsList l vs ∨ s.heap.IsTuple l vs) (hr : ReadsAll s.heap vs.toList (x :: xs) as) (ha : AlikeAll (x :: xs)) (hu : A.units + 1 + PyData.depthAll (x :: xs) < cLine)
    (h : ∀ (i : Nat) v h' tk, vs[i]? = some v → (x :: xs).getD i .none = maxD x xs → (∀ b o, s.heap.get? b = some o → h'.get? b = some o) → Q v { s with heap := h', toks := tk }) :
    wpAny (model prog w) A (call (.builtin "max") [.ref l]) Q E s := by
  have hn : vs.size = xs.length + 1 := readsAll_len hr
  have e1 : vs.size - 1 = xs.length := by omega
  have e2 := (argBest_fold (fun a b => PySem.W.dataLt b a) PyData.none x xs xs.length (Nat.le_refl _)).2
  rw [List.take_length] at e2
  rcases hl with hl | hl
  · refine call_max_walkH (iter_listW (A := A.in1) hh hl fun s₂ e W st hfp hw hk => ?_)
    refine ⟨_, _, _, _, _, _, _, s.heap, _, rfl, W, st, hfp, by omega, hw, hk, cmpIn_gt (A := A.in1) hr ha (by show A.units + 1 + _ < _; exact hu), fun v s' hP m => ?_⟩
    obtain ⟨h', tk, rfl, hk'⟩ := moved_old e rfl m
    exact h _ v h' tk hP (by rw [e1]; exact e2) hk'
  · refine call_max_walkH (iter_tupleW (A := A.in1) hh hl fun s₂ e W st hfp hw hk => ?_)
    refine ⟨_, _, _, _, _, _, _, s.heap, _, rfl, W, st, hfp, by omega, hw, hk, cmpIn_gt (A := A.in1) hr ha (by show A.units + 1 + _ < _; exact hu), fun v s' hP m => ?_⟩
    obtain ⟨h', tk, rfl, hk'⟩ := moved_old e rfl m
    exact h _ v h' tk hP (by rw [e1]; exact e2) hk'
end
def rMm (K : Frg) (m : PyData → List PyData → PyData) : List V → Hp → VK → Prop := fun xs H Q => ∃ (a : Addr) (vs : List V) (d : PyData) (ds : List PyData), xs = [.ref a] ∧ (SqL K H a vs ∨ SqT K H a vs) ∧ RpAll K H vs (d :: ds) ∧ OkMin (d :: ds) ∧
  ∀ (i : Nat) (v : V), vs[i]? = some v → (d :: ds)[i]? = some (m d ds) → Q v H
section
variable {pins : List (Addr × Obj)} {s : Shared} {σ : L2.St} {H : Hp}
theorem reads_all (I : Inv X pins σ H s) : ∀ {vs : List V} {ds : List PyData} {us : List Value}, RpAll X.K H vs ds → (∀ d ∈ ds, d.canLay0 = true) → Vals vs us → ∃ as, ReadsAll s.heap us ds as
  | _, _, _, .nil, _, .nil => ⟨[], .nil⟩
  | _, _, _, .cons h r, hc, .cons h' r' => by
    obtain ⟨as, q⟩ := Dp.reads I _ _ _ (h.dp (hc _ List.mem_cons_self)) h'
    obtain ⟨bs, q'⟩ := reads_all I r (fun d hd => hc d (List.mem_cons_of_mem _ hd)) r'
    exact ⟨as ++ bs, .cons q q'⟩
theorem call_mm {k : Nat} {id : String} {m : PyData → List PyData → PyData} (hr : Room k X.A) (hcalm : X.calm = true)
    (hat : ∀ {s : Shared} {l : Addr} {vs : Array Value} {x : PyData} {xs : List PyData} {as : List Addr} {Q : Value → Shared → Prop}, X.A.handled = none → (s.heap.IsList l vs ∨ s.heap.IsTuple l vs) → ReadsAll s.heap vs.toList (x :: xs) as → AlikeAll (x :: xs) → X.A.units + 1 + PyData.depthAll (x :: xs) < cLine →
    (∀ (i : Nat) v h' tk, vs[i]? = some v → (x :: xs).getD i .none = m x xs → (∀ b o, s.heap.get? b = some o → h'.get? b = some o) → Q v { s with heap := h', toks := tk }) →
    wpAny (model X.prog X.w) X.A (call (.builtin id) [.ref l]) Q X.xe s) : CallR X (.builtin id) (rMm X.K m) := by
  intro pins s σ H xs us Q I r h
  obtain ⟨a, vs, d, ds, rfl, hq, rp, ok, q⟩ := h
  obtain ⟨u, rfl, rx⟩ := vals1 r
  cases rx
  have go : ∀ its : List Value, Vals vs its → (s.heap.IsList a its.toArray ∨ s.heap.IsTuple a its.toArray) → wpAny (model X.prog X.w) X.A (call (.builtin id) [.ref a]) (EP X pins σ Q) X.xe s := fun its r' hl => by
    obtain ⟨as, rr⟩ := reads_all I rp ok.lay r'
    refine hat (I.ok.hd hcalm) hl rr ok.al (by have := hr.un; have := ok.dp; omega) fun i v h' tk hv hd hk => ?_
    have hv' : its[i]? = some v := by simpa using hv
    have hi : i < (d :: ds).length := by
      rw [← rp.length, r'.length]
      exact (List.getElem?_eq_some_iff.mp hv').1
    have hd' : (d :: ds)[i]? = some (m d ds) := by
      rw [List.getD_eq_getElem?_getD, List.getElem?_eq_getElem hi] at hd
      rw [List.getElem?_eq_getElem hi]
      exact congrArg some hd
    obtain ⟨w, hw, _⟩ := rp.get hd'
    obtain ⟨v2, hv2, rv⟩ := r'.get hw
    rw [hv'] at hv2
    cases hv2
    exact ⟨w, H, I.kept hk, rv, q i w hw hd'⟩
  rcases hq with hq | hq
  · obtain ⟨its, r', pl, hz⟩ := I.list hq
    exact go its r' (.inl pl.isList)
  · obtain ⟨its, r', pl, hz⟩ := I.tuple hq
    exact go its r' (.inr pl)
end
def gMm (m : PyData → List PyData → PyData) (o : OV) : Option OV := match seqX o with
  | some (d :: ds) => if okMin (d :: ds) then some (.fz (m d ds)) else none
  | _ => none
theorem RpAll.at {F : Hp} {vs : List V} {ds : List PyData} {i : Nat} {v : V} {d : PyData} (r : RpAll K F vs ds) (h1 : vs[i]? = some v) (h2 : ds[i]? = some d) : Rp K F v d := by
  obtain ⟨w, h3, h4⟩ := r.get h2
  rw [h1] at h3
  cases h3
  exact h4
theorem cx_mm {m : PyData → List PyData → PyData} : CallX K (rMm K m) (g1 (gMm m)) := by
  intro n F H σ S own xs os o Q st r hg he
  unfold g1 at hg
  split at hg
  · obtain ⟨v, as, rfl, ro⟩ := r.one
    unfold gMm at hg
    split at hg
    · rename_i d ds h1
      split at hg
      · rename_i hk
        cases hg
        obtain ⟨a, vs, rfl, hs, rr⟩ := ro.seqX st.fh h1
        exact ⟨a, vs, d, ds, rfl, hs, rr.mono st.fh, okMin_ok hk, fun i v hv hd => he.val st (rr.at hv hd)⟩
      · cases hg
    · cases hg
  · cases hg
theorem d_min {k : Nat} {p' : Pos} (hr : Room k X.A) (hcalm : X.calm = true) (ha : DX X p e f) (hg : Gl X "min") (hm : X.mg "min" = none) (hs : starEach [e] X.env = (false, eval e X.env) :: starEach [] X.env := by rfl) : DO X (p && true) (.Call (.Name "min" p') [e] [] pos) (eCall (g1 (gMm minD)) (aCons true f aNil)) :=
  d_callB (call_mm hr hcalm min_at) cx_mm hg hm (by decide +kernel) (a_cons ha a_nil hs) (he := hs)
theorem d_max {k : Nat} {p' : Pos} (hr : Room k X.A) (hcalm : X.calm = true) (ha : DX X p e f) (hg : Gl X "max") (hm : X.mg "max" = none) (hs : starEach [e] X.env = (false, eval e X.env) :: starEach [] X.env := by rfl) : DO X (p && true) (.Call (.Name "max" p') [e] [] pos) (eCall (g1 (gMm maxD)) (aCons true f aNil)) :=
  d_callB (call_mm hr hcalm max_at) cx_mm hg hm (by decide +kernel) (a_cons ha a_nil hs) (he := hs)
end
end PD
set_option Elab.async false
set_option linter.all false
set_option maxRecDepth 100000
set_option maxHeartbeats 4000000
namespace PD
open PySem PySem.Spec PyProof.Rows L2

/-! ### an own value in a slot changes -/
def SV.ov : SV → Option OV
  | .v o => some o
  | .io o => some o
  | .un => none
def SV.put (o : OV) : SV → SV
  | .v _ => .v o
  | .io _ => .io o
  | .un => .un
def getS (i : Nat) (S : SS) : Option OV := (S[i]?).bind SV.ov
def modS (i : Nat) (o : OV) (S : SS) : SS := match S[i]? with
  | some u => S.set i (u.put o)
  | none => S
section
variable {K : Frg} {n : Ent} {F F' H H' : Hp} {σ : L2.St} {S : SS} {own : Nat → List Addr}
theorem St.read {i : Nat} {o : OV} (s : St K n F H σ S own) (h : getS i S = some o) : ∃ v, σ[i]? = some (some v) ∧ RO K F H (own i) v o := by
  unfold getS at h
  cases e : S[i]? with
  | none => rw [e] at h; cases h
  | some u =>
    rw [e] at h
    cases u with
    | un => cases h
    | v o' => cases h; exact s.slot i o e
    | io o' => cases h; exact ⟨_, s.slio i o e⟩
theorem St.change {i : Nat} {o o' : OV} {v : V} {as : List Addr} (s : St K n F H σ S own) (h : getS i S = some o) (hv : σ[i]? = some (some v)) (hH : ∀ b, b ∉ own i → (∃ u, H b = some u) → H' b = H b)
    (r : RO K F H' as v o') (nd : as.Nodup) (sub : ∀ a ∈ as, a ∈ own i ∨ (F a = none ∧ n.R a = none ∧ ∀ j, a ∉ own j)) : St K n F H' σ (modS i o' S) (fun j => if j = i then as else own j) := by
  have hu : ∃ u, S[i]? = some u ∧ u.ov = some o := by
    unfold getS at h
    cases e : S[i]? with
    | none => rw [e] at h; cases h
    | some u => rw [e] at h; exact ⟨u, rfl, h⟩
  obtain ⟨u, hu, ho⟩ := hu
  have hi : i < S.length := (List.getElem?_eq_some_iff.mp hu).1
  have eS : modS i o' S = S.set i (u.put o') := by unfold modS; rw [hu]
  rw [eS]
  have keep : ∀ j, j ≠ i → ∀ a ∈ own j, H' a = H a := fun j hj a ha => by
    obtain ⟨q, hq, _⟩ := s.dom ha
    exact hH a (s.dis j i hj a ha) ⟨q, hq⟩
  refine ⟨fun a q hq => ?_, fun a q hq => ?_, s.f0, s.good, by simp [s.len], fun j q hq => ?_, fun j q hq => ?_, fun j h1 h2 => ?_, fun j => ?_, fun j k hjk a ha => ?_, fun j a ha => ?_⟩
  · rw [hH a (fun z => by rw [(s.out i a z).1] at hq; cases hq) ⟨q, s.fh a q hq⟩]; exact s.fh a q hq
  · rw [hH a (fun z => by rw [(s.out i a z).2] at hq; cases hq) ⟨q, s.rh a q hq⟩]; exact s.rh a q hq
  · by_cases z : j = i
    · subst z
      rw [List.getElem?_set_self hi] at hq
      cases u with
      | un => cases ho
      | v w => simp only [SV.put] at hq; cases hq; rw [if_pos rfl]; exact ⟨v, hv, r⟩
      | io w => simp only [SV.put] at hq; cases hq
    · rw [List.getElem?_set_ne (Ne.symm z)] at hq
      rw [if_neg z]
      obtain ⟨w, h1, h2⟩ := s.slot j q hq
      exact ⟨w, h1, h2.frame (fun _ _ z => z) (keep j z)⟩
  · by_cases z : j = i
    · subst z
      rw [List.getElem?_set_self hi] at hq
      cases u with
      | un => cases ho
      | v w => simp only [SV.put] at hq; cases hq
      | io w =>
        simp only [SV.put] at hq
        cases hq
        rw [if_pos rfl]
        have hw := (s.slio j w hu).1
        rw [hw] at hv
        cases hv
        exact ⟨hw, r⟩
    · rw [List.getElem?_set_ne (Ne.symm z)] at hq
      rw [if_neg z]
      obtain ⟨h1, h2⟩ := s.slio j q hq
      exact ⟨h1, h2.frame (fun _ _ z => z) (keep j z)⟩
  · by_cases z : j = i
    · subst z
      exfalso
      rw [List.getElem?_set_self hi] at h1 h2
      cases u with
      | un => cases ho
      | v w => exact h1 o' rfl
      | io w => exact h2 o' rfl
    · rw [if_neg z]
      exact s.un j (fun o q => h1 o (by rw [List.getElem?_set_ne (Ne.symm z)]; exact q)) (fun o q => h2 o (by rw [List.getElem?_set_ne (Ne.symm z)]; exact q))
  · show (if j = i then as else own j).Nodup
    split
    · exact nd
    · exact s.nod j
  · show a ∉ if k = i then as else own k
    have ha : a ∈ if j = i then as else own j := ha
    by_cases zj : j = i
    · rw [if_pos zj] at ha
      rw [if_neg (fun q => hjk (zj.trans q.symm))]
      rcases sub a ha with q | ⟨_, _, q⟩
      · exact s.dis i k (fun z => hjk (zj.trans z)) a q
      · exact q k
    · rw [if_neg zj] at ha
      by_cases zk : k = i
      · rw [if_pos zk]
        intro q
        rcases sub a q with q | ⟨_, _, q⟩
        · exact s.dis j i zj a ha q
        · exact q j ha
      · rw [if_neg zk]
        exact s.dis j k hjk a ha
  · have ha : a ∈ if j = i then as else own j := ha
    split at ha
    · rcases sub a ha with q | ⟨q1, q2, _⟩
      · exact s.out i a q
      · exact ⟨q1, q2⟩
    · exact s.out j a ha
/-- an own list in a slot -/
theorem St.lst {i : Nat} {xs : List OV} (s : St K n F H σ S own) (h : getS i S = some (.ol xs)) : ∃ a bs vs, σ[i]? = some (some (.ref a)) ∧ own i = a :: bs ∧ H a = some (.lst vs) ∧ ROs K F H bs vs xs := by
  obtain ⟨v, h1, h2⟩ := s.read h
  obtain ⟨a, bs, vs, rfl, e, h3, h4⟩ := h2.ol_inv
  exact ⟨a, bs, vs, h1, e, h3, h4⟩
/-- its object is written anew, with fresh own values put in -/
theorem St.relst {i : Nat} {xs ys : List OV} {a : Addr} {bs cs : List Addr} {ws : List V} (s : St K n F H σ S own) (h : getS i S = some (.ol xs)) (hv : σ[i]? = some (some (.ref a))) (e : own i = a :: bs)
    (r : ROs K F H cs ws ys) (nd : cs.Nodup) (sub : ∀ c ∈ cs, c ∈ bs ∨ (F c = none ∧ n.R c = none ∧ ∀ j, c ∉ own j)) : St K n F (L2.upd H a (.lst ws)) σ (modS i (.ol ys) S) (fun j => if j = i then a :: cs else own j) := by
  have ha : a ∉ cs := fun z => by
    rcases sub a z with q | ⟨_, _, q⟩
    · have := s.nod i
      rw [e] at this
      exact (List.nodup_cons.mp this).1 q
    · exact q i (by rw [e]; exact List.mem_cons_self)
  refine s.change h hv (fun b hb _ => upd_ne fun z => hb (by rw [z, e]; exact List.mem_cons_self)) (.ol upd_same (ROs.frame (fun _ _ q => q) r fun c hc => upd_ne fun z => ha (z ▸ hc))) (List.nodup_cons.mpr ⟨ha, nd⟩) fun c hc => ?_
  rcases List.mem_cons.mp hc with z | z
  · exact .inl (by rw [e, z]; exact List.mem_cons_self)
  · rcases sub c z with q | q
    · exact .inl (by rw [e]; exact List.mem_cons_of_mem _ q)
    · exact .inr q
theorem ROs.one {as : List Addr} {v : V} {x : OV} (h : RO K F H as v x) : ROs K F H as [v] [x] := by
  have := ROs.cons h ROs.nil
  rwa [List.append_nil] at this
theorem St.bnd {i : Nat} {a : Addr} {bs : List Addr} (s : St K n F H σ S own) (e : own i = a :: bs) : bs.Nodup := by
  have := s.nod i
  rw [e] at this
  exact (List.nodup_cons.mp this).2
theorem Tmp.disj {i : Nat} {a : Addr} {bs cs : List Addr} {v : V} {x : OV} (t : Tmp K n F H own cs v x) (e : own i = a :: bs) : ∀ b ∈ bs, b ∉ cs := fun b hb hc => (t.out b hc).2.2 i (by rw [e]; exact List.mem_cons_of_mem _ hb)
theorem nodup_app {α : Type} {l m : List α} (h1 : l.Nodup) (h2 : m.Nodup) (h3 : ∀ x ∈ l, x ∉ m) : (l ++ m).Nodup := List.nodup_append.mpr ⟨h1, h2, fun a ha b hb e => h3 a ha (e ▸ hb)⟩
end

section
variable {X : Cx} {e e2 a b c : Expr} {es : List Expr} {p pa pb pc : Bool} {f fa fb fc : EV} {ga : EA} {pos pos2 apos cpos : Pos} {K : Frg} {ft ft2 ta tb : EB} {x : Str}
/-! ### xs.append(e), xs.insert(i, e), xs.extend(e) -/
def isOl (i : Nat) (S : SS) : Bool := match getS i S with
  | some (.ol _) => true
  | _ => false
theorem isOl_ok {i : Nat} {S : SS} (h : isOl i S = true) : ∃ xs, getS i S = some (.ol xs) := by
  unfold isOl at h
  split at h
  · rename_i xs e; exact ⟨xs, e⟩
  · cases h
theorem St.isL {n : Ent} {F H : Hp} {σ : L2.St} {S : SS} {own : Nat → List Addr} {i : Nat} (s : St K n F H σ S own) (h : isOl i S = true) : ∃ a, σ[i]? = some (some (.ref a)) ∧ tyV K "list" (.ref a) H := by
  obtain ⟨xs, h⟩ := isOl_ok h
  obtain ⟨a, bs, vs, h1, _, h3, _⟩ := s.lst h
  exact ⟨a, h1, .inl ⟨rfl, vs, SqL.of h3⟩⟩
/-- a change of the own list in slot i -/
def gApp (i : Nat) (f : EV) : SM := fun S => if isOl i S then (match f S with
  | some (y, S1) => (match getS i S1 with
    | some (.ol xs) => if xs.length < sizeLine then some (.nx, modS i (.ol (xs ++ [y])) S1) else none
    | _ => none)
  | none => none) else none
theorem s_app (i : Nat) (h : PE X (.Name x pos2) (tVar i)) (he : DO X p e f) (hs : starEach [e] X.env = (false, eval e X.env) :: starEach [] X.env := by rfl)
    (hbase : attributeBase (.Name x pos2) "append" X.env (eval (.Name x pos2) X.env) = eval (.Name x pos2) X.env := by rfl)
    (hfew : ((backTo cpos (starEach [e] X.env)).all (fun x => !x.1) && (backToKw cpos (keywordEach [] X.env)).all (fun x => x.1.isSome)
      && decide (([e] : List Expr).length + ([] : List Keyword).length + (if ([] : List Keyword).isEmpty then 0 else 1) < 30)) = true := by rfl)
    (hline : (apos.endLine == cpos.line) = true := by rfl) (hsw : swapsWith (.Call (.Attribute (.Name x pos2) "append" apos) [e] [] cpos) none pos.line X.env = pure false := by rfl) :
    DS X (.Expr (.Call (.Attribute (.Name x pos2) "append" apos) [e] [] cpos) pos) (gApp i f) :=
  ⟨(ps_expr (pe_bm PySem.F.plainAttrs_list PySem.F.slot_list_append PySem.F.type_list_append mt_append h (pa_cons he.pe pa_nil hs) hbase hfew hline hs) hsw).imp fun D σ H ⟨n, F, S, own, fl, S', st, hg, q⟩ => by
    unfold gApp at hg
    split at hg
    · rename_i hl
      split at hg
      · rename_i y S1 h1
        split at hg
        · rename_i xs h2
          split at hg
          · rename_i hz
            cases hg
            obtain ⟨a, hv, ty⟩ := st.isL hl
            refine ⟨.ref a, hv, ty, n, F, S, own, y, S1, st, h1, fun F1 H1 own1 v as e1 st1 t pu => ?_⟩
            obtain ⟨a', bs, vs, hv', e3, h3, h4⟩ := st1.lst h2
            rw [hv] at hv'
            cases hv'
            refine ⟨a, vs, v, rfl, rfl, h3, by rw [h4.length]; exact hz, ?_⟩
            exact q F1 _ σ _ e1 (st1.relst h2 hv e3 (h4.append (ROs.one t.ro)) (nodup_app (st1.bnd e3) t.nod (t.disj e3)) fun c hc => by
              rcases List.mem_append.mp hc with hc | hc
              · exact .inl hc
              · exact .inr (t.out c hc))
          · cases hg
        · cases hg
      · cases hg
    · cases hg⟩
def gIns (i : Nat) (fa fb : EV) : SM := fun S => if isOl i S then (match fa S with
  | some (.fz (.int j), S1) => (match fb S1 with
    | some (y, S2) => (match getS i S2 with
      | some (.ol xs) => if xs.length < sizeLine ∧ 0 ≤ j ∧ j < 2 ^ 63 then some (.nx, modS i (.ol (xs.take j.toNat ++ [y] ++ xs.drop j.toNat)) S2) else none
      | _ => none)
    | none => none)
  | _ => none) else none
theorem ROs.split : ∀ {F H : Hp} {as : List Addr} {vs : List V} {xs : List OV} (k : Nat), ROs K F H as vs xs → ∃ bs cs, as = bs ++ cs ∧ ROs K F H bs (vs.take k) (xs.take k) ∧ ROs K F H cs (vs.drop k) (xs.drop k)
  | _, _, as, _, _, 0, h => ⟨[], as, rfl, .nil, h⟩
  | _, _, _, _, _, k + 1, .nil => ⟨[], [], rfl, .nil, .nil⟩
  | _, _, _, _, _, k + 1, .cons (as := as) h t => by
    obtain ⟨bs, cs, e, h1, h2⟩ := ROs.split k t
    exact ⟨as ++ bs, cs, by rw [e, List.append_assoc], .cons h h1, h2⟩
theorem s_ins (i : Nat) (h : PE X (.Name x pos2) (tVar i)) (ha : DX X pa a fa) (hb : DO X pb b fb) (hs : starEach [a, b] X.env = (false, eval a X.env) :: starEach [b] X.env := by rfl) (hs2 : starEach [b] X.env = (false, eval b X.env) :: starEach [] X.env := by rfl)
    (hbase : attributeBase (.Name x pos2) "insert" X.env (eval (.Name x pos2) X.env) = eval (.Name x pos2) X.env := by rfl)
    (hfew : ((backTo cpos (starEach [a, b] X.env)).all (fun x => !x.1) && (backToKw cpos (keywordEach [] X.env)).all (fun x => x.1.isSome)
      && decide (([a, b] : List Expr).length + ([] : List Keyword).length + (if ([] : List Keyword).isEmpty then 0 else 1) < 30)) = true := by rfl)
    (hpl : (backTo cpos (starEach [b] X.env)).any (·.1) = false := by rfl)
    (hline : (apos.endLine == cpos.line) = true := by rfl) (hsw : swapsWith (.Call (.Attribute (.Name x pos2) "insert" apos) [a, b] [] cpos) none pos.line X.env = pure false := by rfl) :
    DS X (.Expr (.Call (.Attribute (.Name x pos2) "insert" apos) [a, b] [] cpos) pos) (gIns i fa fb) :=
  ⟨(ps_expr (pe_bm PySem.F.plainAttrs_list PySem.F.slot_list_insert PySem.F.type_list_insert mt_insert h (pa_cons ha.pe (pa_cons hb.pe pa_nil hs2) hs) hbase hfew hline hs hpl) hsw).imp fun D σ H ⟨n, F, S, own, fl, S', st, hg, q⟩ => by
    unfold gIns at hg
    split at hg
    · rename_i hl
      split at hg
      · rename_i j S0 h0
        split at hg
        · rename_i y S1 h1
          split at hg
          · rename_i xs h2
            split at hg
            · rename_i hz
              cases hg
              obtain ⟨a, hv, ty⟩ := st.isL hl
              refine ⟨.ref a, hv, ty, n, F, S, own, _, S0, st, h0, fun F0 H0 own0 v0 as0 e0 st0 r0 pu0 => ?_⟩
              cases r0.int_v
              refine ⟨n, F0, S0, own0, y, S1, st0, h1, fun F1 H1 own1 v as e1 st1 t pu => ?_⟩
              obtain ⟨a', bs, vs, hv', e3, h3, h4⟩ := st1.lst h2
              rw [hv] at hv'
              cases hv'
              obtain ⟨b1, b2, eb, g1, g2⟩ := h4.split j.toNat
              have nb := st1.bnd e3
              have db := t.disj e3
              rw [eb] at nb db
              obtain ⟨n1, n2, n3⟩ := List.nodup_append.mp nb
              refine ⟨a, vs, j, v, rfl, rfl, h3, by rw [h4.length]; exact hz.1, hz.2.1, hz.2.2, ?_⟩
              refine q F1 _ σ _ (e0.trans e1) (st1.relst h2 hv e3 ((g1.append (ROs.one t.ro)).append g2) (nodup_app (nodup_app n1 t.nod fun c hc => db c (List.mem_append_left _ hc)) n2 fun c hc => ?_) fun c hc => ?_)
              · rcases List.mem_append.mp hc with hc | hc
                · exact fun z => n3 c hc c z rfl
                · exact fun z => db c (List.mem_append_right _ z) hc
              · rcases List.mem_append.mp hc with hc | hc
                · rcases List.mem_append.mp hc with hc | hc
                  · exact .inl (by rw [eb]; exact List.mem_append_left _ hc)
                  · exact .inr (t.out c hc)
                · exact .inl (by rw [eb]; exact List.mem_append_right _ hc)
            · cases hg
          · cases hg
        · cases hg
      · cases hg
    · cases hg⟩
/-- extend by a list or a tuple -/
def rExt (K : Frg) : V → List V → Hp → VK → Prop := fun x vs H Q => ∃ l b xs zs, x = .ref l ∧ vs = [.ref b] ∧ H l = some (.lst xs) ∧ (SqL K H b zs ∨ SqT K H b zs) ∧ xs.length + zs.length ≤ sizeLine ∧ Q .non (upd H l (.lst (xs ++ zs)))
theorem mt_ext : MtM X "list.extend" (rExt X.K) := by
  intro pins s σ H x vs v us Q I rx rv h
  obtain ⟨l, b, xs, zs, rfl, rfl, hH, hB, hz, q⟩ := h
  cases rx
  obtain ⟨u, rfl, ru⟩ := rv.one
  cases ru
  obtain ⟨z, its, n, r, hl, e⟩ := I.lstM hH
  have go : ∀ (T : String) (o : Obj) (its2 : List Value) (m : Nat), (T = "list" ∨ T = "tuple") → Vals zs its2 → s.heap.get? b = some o → o.cls = .type T → o.data = .seq its2.toArray m →
      wpAny (model X.prog X.w) X.A (call (.builtin "list.extend") [.ref l, .ref b]) (EP X pins σ Q) X.xe s := fun T o its2 m hT r2 ho hc hd => by
    have hl2 := r2.length
    refine wpAny_call_entry F.slot_list_extend ⟨_, e, rfl⟩ F.entry_list_extend ?_ (F.args_list_extend_2 _ _)
    show wpAny _ X.A.in1 (Builtin.List.listExtendWith (.ref l) (.ref b) .none) _ _ s
    unfold Builtin.List.listExtendWith
    refine wpAny_bind (wpAny_typeOf ⟨o, ho, hc⟩ ?_)
    have h1 : (Builtin.List.listSameRef (.ref l) (.ref b) || Value.type T == Value.type "list" || Value.type T == Value.type "tuple") = true := by
      rcases hT with rfl | rfl <;> simp
    simp only [h1, if_true]
    refine wpAny_bind ?_
    unfold Builtin.List.listItems
    refine wpAny_bind (wpAny_seqItems ho hd (wpAny_pure ?_))
    refine wpAny_bind ?_
    refine wpAny_bind (wpAny_seqItems e rfl (wpAny_pure ?_))
    have hsz : its.toArray.size + its2.toArray.size ≤ sizeLine := by rw [List.size_toArray, List.size_toArray]; omega
    have hlong : (!its.toArray.isEmpty && Builtin.List.listTooLong (its.toArray.size + its2.toArray.size)) = false := by
      rw [notLongL hsz, Bool.and_false]
    rw [hlong]
    show wpAny _ X.A.in1 (updateSeq l (· ++ its2.toArray) >>= fun _ => ret .none) _ _ s
    refine wpAny_bind (wpAny_updateSeq e rfl ?_ (hz := by rw [List.size_toArray]; omega) (_hz' := by rw [Array.size_append]; omega))
    refine wpAny_pure ⟨_, rfl, .non, _, I.lset (its' := its ++ its2) (t' := s.toks) hH e (by simp) (r.append r2) ?_, rfl, q⟩
    rw [List.length_append]
    omega
  rcases hB with hB | hB
  · obtain ⟨its2, r2, pl, hz2⟩ := I.list hB
    obtain ⟨o, ho, hc, m, hd⟩ := pl.isList
    exact go "list" o its2 m (.inl rfl) r2 ho hc hd
  · obtain ⟨its2, r2, pl, hz2⟩ := I.tuple hB
    obtain ⟨o, ho, hc, m, hd⟩ := pl
    exact go "tuple" o its2 m (.inr rfl) r2 ho hc hd
/-- xs.extend(e), e's items frozen -/
def gExt (i : Nat) (f : EV) : SM := fun S => if isOl i S then (match f S with
  | some (y, S1) => (match getS i S1, seqX y with
    | some (.ol xs), some ds => if xs.length + ds.length ≤ sizeLine then some (.nx, modS i (.ol (xs ++ ds.map OV.fz)) S1) else none
    | _, _ => none)
  | none => none) else none
theorem s_ext (i : Nat) (h : PE X (.Name x pos2) (tVar i)) (he : DX X p e f) (hs : starEach [e] X.env = (false, eval e X.env) :: starEach [] X.env := by rfl)
    (hbase : attributeBase (.Name x pos2) "extend" X.env (eval (.Name x pos2) X.env) = eval (.Name x pos2) X.env := by rfl)
    (hfew : ((backTo cpos (starEach [e] X.env)).all (fun x => !x.1) && (backToKw cpos (keywordEach [] X.env)).all (fun x => x.1.isSome)
      && decide (([e] : List Expr).length + ([] : List Keyword).length + (if ([] : List Keyword).isEmpty then 0 else 1) < 30)) = true := by rfl)
    (hline : (apos.endLine == cpos.line) = true := by rfl) (hsw : swapsWith (.Call (.Attribute (.Name x pos2) "extend" apos) [e] [] cpos) none pos.line X.env = pure false := by rfl) :
    DS X (.Expr (.Call (.Attribute (.Name x pos2) "extend" apos) [e] [] cpos) pos) (gExt i f) :=
  ⟨(ps_expr (pe_bm PySem.F.plainAttrs_list PySem.F.slot_list_extend PySem.F.type_list_extend mt_ext h (pa_cons he.pe pa_nil hs) hbase hfew hline hs) hsw).imp fun D σ H ⟨n, F, S, own, fl, S', st, hg, q⟩ => by
    unfold gExt at hg
    split at hg
    · rename_i hl
      split at hg
      · rename_i y S1 h1
        split at hg
        · rename_i xs ds h2 h2'
          split at hg
          · rename_i hz
            cases hg
            obtain ⟨a, hv, ty⟩ := st.isL hl
            refine ⟨.ref a, hv, ty, n, F, S, own, y, S1, st, h1, fun F1 H1 own1 v as e1 st1 r pu => ?_⟩
            obtain ⟨a', bs, vs, hv', e3, h3, h4⟩ := st1.lst h2
            rw [hv] at hv'
            cases hv'
            obtain ⟨b, ws, rfl, hs, rr⟩ := r.seqX st1.fh h2'
            refine ⟨a, b, vs, ws, rfl, rfl, h3, hs, by rw [h4.length, rr.length]; exact hz, ?_⟩
            have g := h4.append (ROs.fz rr)
            rw [List.append_nil] at g
            exact q F1 _ σ _ e1 (st1.relst h2 hv e3 g (st1.bnd e3) fun c hc => .inl hc)
          · cases hg
        · cases hg
      · cases hg
    · cases hg⟩
end
end PD
set_option Elab.async false
set_option linter.all false
set_option maxRecDepth 100000
set_option maxHeartbeats 4000000
namespace PD
open PySem PySem.Spec PyProof.Rows L2

theorem ROs.place {K : Frg} {F H : Hp} : ∀ {as : List Addr} {vs : List V} {xs : List OV} {k : Nat} {x : OV}, ROs K F H as vs xs → xs[k]? = some x →
    ∃ b1 b2 c v, as = b1 ++ (c ++ b2) ∧ vs[k]? = some v ∧ RO K F H c v x ∧
      ∀ (F' H' : Hp) (c' : List Addr) (v' : V) (x' : OV), Same F F' → (∀ a, a ∈ b1 ∨ a ∈ b2 → H' a = H a) → RO K F' H' c' v' x' → ROs K F' H' (b1 ++ (c' ++ b2)) (vs.set k v') (xs.set k x')
  | _, _, _, _, _, .nil, e => by simp at e
  | _, _, _, 0, _, .cons (as := as) (bs := bs) (v := v) h t, e => by
    simp at e
    subst e
    exact ⟨[], bs, as, v, rfl, rfl, h, fun F' H' c' v' x' e hh r => show ROs K F' H' (c' ++ bs) (v' :: _) (x' :: _) from .cons r (t.frame e fun a ha => hh a (.inr ha))⟩
  | _, _, _, k + 1, _, .cons (as := as) h t, e => by
    obtain ⟨b1, b2, c, v, e1, e2, r, g⟩ := ROs.place (k := k) t (by simpa using e)
    refine ⟨as ++ b1, b2, c, v, by rw [e1, List.append_assoc], by simpa using e2, r, fun F' H' c' v' x' e hh r' => ?_⟩
    rw [List.append_assoc]
    exact .cons (h.frame e fun a ha => hh a (.inl (List.mem_append_left _ ha))) (g F' H' c' v' x' e (fun a ha => hh a (ha.imp (fun q => List.mem_append_right _ q) id)) r')

section
variable {X : Cx} {e e2 a b c : Expr} {es : List Expr} {p pa pb pc : Bool} {f fa fb fc : EV} {ga : EA} {pos pos2 apos cpos : Pos} {K : Frg} {ft ft2 ta tb : EB} {x : Str}
/-- xs[j] = e -/
def gPutIx (i : Nat) (fv fk : EV) : SM := fun S => match fv S with
  | some (y, S1) => if isOl i S1 then (match fk S1 with
    | some (.fz (.int j), S2) => (match getS i S2 with
      | some (.ol xs) => (match ixN xs.length j with
        | some k => some (.nx, modS i (.ol (xs.set k y)) S2)
        | none => none)
      | _ => none)
    | _ => none) else none
  | none => none
theorem ixN_lt {n : Nat} {i : Int} {j : Nat} (h : ixN n i = some j) : j < n := (ixN_seq h).2.1
theorem setAt_own {n : Ent} {F H : Hp} {σ : L2.St} {S : SS} {own : Nat → List Addr} {i k : Nat} {xs : List OV} {a : Addr} {bs cs : List Addr} {vs : List V} {v : V} {y : OV} (st : St K n F H σ S own) (h : getS i S = some (.ol xs)) (hv : σ[i]? = some (some (.ref a))) (e : own i = a :: bs)
    (r : ROs K F H bs vs xs) (t : Tmp K n F H own cs v y) (hk : k < xs.length) : ∃ own', St K n F (L2.upd H a (.lst (vs.set k v))) σ (modS i (.ol (xs.set k y)) S) own' := by
  obtain ⟨b1, b2, c, w, e1, _, _, g⟩ := r.place (List.getElem?_eq_getElem hk)
  have nb := st.bnd e
  have db := t.disj e
  rw [e1] at nb db
  obtain ⟨n1, n2, n3⟩ := List.nodup_append.mp nb
  obtain ⟨m1, m2, m3⟩ := List.nodup_append.mp n2
  refine ⟨_, st.relst h hv e (g F H cs v y (Same.refl F) (fun _ _ => rfl) t.ro) (nodup_app n1 (nodup_app t.nod m2 fun z hz hz2 => db z (List.mem_append_right _ (List.mem_append_right _ hz2)) hz) fun z hz hz2 => ?_) fun z hz => ?_⟩
  · rcases List.mem_append.mp hz2 with q | q
    · exact db z (List.mem_append_left _ hz) q
    · exact n3 z hz z (List.mem_append_right _ q) rfl
  · rw [e1]
    rcases List.mem_append.mp hz with q | q
    · exact .inl (List.mem_append_left _ q)
    · rcases List.mem_append.mp q with q | q
      · exact .inr (t.out z q)
      · exact .inl (List.mem_append_right _ (List.mem_append_right _ q))
theorem s_putIx (i : Nat) (h : PE X (.Name x pos2) (tVar i)) (hk : DX X pb b fb) (he : DO X p e f) (hs : swapsWithSole [.Subscript (.Name x pos2) b apos] e pos.line X.env = pure false := by rfl) (hw : swappedStores [.Subscript (.Name x pos2) b apos] e X.env = pure none := by rfl)
    (ha : ∀ v, assign (.Subscript (.Name x pos2) b apos) X.env v = (do
      let ov ← holding [v] (eval (.Name x pos2) X.env)
      let iv ← holding [v, ov] (eval b X.env)
      standAt apos
      holding [v, ov, iv] (setItem ov iv v)
      release [v, ov, iv] []) := by intro _; rfl) :
    DS X (.Assign [.Subscript (.Name x pos2) b apos] e pos) (gPutIx i f fb) :=
  ⟨(ps_asg he.pe (pg_sub h hk.pe set_list ha) hs hw).imp fun D σ H ⟨n, F, S, own, fl, S', st, hg, q⟩ => by
    unfold gPutIx at hg
    split at hg
    · rename_i y S1 h1
      split at hg
      · rename_i hl
        split at hg
        · rename_i j S2 h2
          split at hg
          · rename_i xs h3
            split at hg
            · rename_i k h4
              cases hg
              refine ⟨n, F, S, own, y, S1, st, h1, fun F1 H1 own1 v as e1 st1 t1 pu1 => ?_⟩
              obtain ⟨a, hv, _⟩ := st1.isL hl
              refine ⟨.ref a, hv, n.with H1 as, F1, S1, own1, _, S2, t1.aside st1, h2, fun F2 H2 own2 w bs e2 st2 r2 pu2 => ?_⟩
              cases r2.int_v
              obtain ⟨st3, t3⟩ := t1.back st1 e2 st2
              obtain ⟨a', cs, vs, hv', e3, h5, h6⟩ := st3.lst h3
              rw [hv] at hv'
              cases hv'
              obtain ⟨own', st4⟩ := setAt_own st3 h3 hv e3 h6 t3 (ixN_lt h4)
              exact ⟨a, vs, j, k, rfl, rfl, h5, by rw [h6.length]; exact h4, q F2 _ σ own' (e1.trans e2) st4⟩
            · cases hg
          · cases hg
        · cases hg
      · cases hg
    · cases hg⟩
/-- xs[j] op= e, ints -/
def rGetL : V → V → Hp → VK → Prop := fun o i H Q => ∃ p xs k v, o = .ref p ∧ i = .int k ∧ H p = some (.lst xs) ∧ atI xs k = some v ∧ Q v H
theorem get_list : PGet X rGetL := by
  intro pins s σ H o i ov iv Q I ro ri h
  obtain ⟨p, xs, k, z, rfl, rfl, hp, he, q⟩ := h
  cases ro
  obtain ⟨t, rfl⟩ := ri
  obtain ⟨its, r, pl, hz⟩ := I.list (SqL.of hp)
  obtain ⟨j, h1, h2, h3, h4, h5⟩ := atI_get he
  obtain ⟨w, ew, rw'⟩ := r.get h2
  have hl := r.length
  have hn := line63
  have fin : EP X pins σ Q w s := ⟨z, H, I, rw', q⟩
  by_cases h0 : 0 ≤ k
  · have hj : k.toNat = j := by
      rw [seqIndex_of h0 h5] at h1
      exact Option.some.inj h1
    exact wpAny_getItem_list pl.isList h0 (by omega) (by rw [hj]; simpa using ew) fin
  · have hj : (k + (its.toArray.size : Int)).toNat = j := by
      rw [seqIndex_neg (by omega) h4] at h1
      rw [List.size_toArray, ← hl]
      exact Option.some.inj h1
    exact wpAny_getItem_list_neg pl.isList (by omega) (by rw [List.size_toArray] <;> omega) (by omega) (by rw [hj]; simpa using ew) fin
def gAugIx (g : Int → Int → Int) (i : Nat) (fk fe : EV) : SM := fun S => if isOl i S then (match fk S with
  | some (.fz (.int j), S1) => (match getS i S1 with
    | some (.ol xs) => (match ixN xs.length j with
      | some k => (match xs[k]? with
        | some (.fz (.int u)) => (match fe S1 with
          | some (.fz (.int w), S2) => (match getS i S2 with
            | some (.ol ys) => (match ixN ys.length j with
              | some k2 => some (.nx, modS i (.ol (ys.set k2 (.fz (.int (g u w))))) S2)
              | none => none)
            | _ => none)
          | _ => none)
        | _ => none)
      | none => none)
    | _ => none)
  | _ => none) else none
theorem s_augIx {op : Operator} {g : Int → Int → Int} (i : Nat) (hip : PIp X op (ipI g)) (h : PE X (.Name x pos2) (tVar i)) (hk : DX X pb b fb) (he : DX X p e f)
    (ha : ∀ ov iv new, augStore b ov iv new = (do holding [new, ov, iv] (setItem ov iv new); release [new, ov, iv] []; pure .next) := by intros; rfl) :
    DS X (.AugAssign (.Subscript (.Name x pos2) b apos) op e pos) (gAugIx g i fb f) :=
  ⟨(ps_augS h hk.pe get_list he.pe hip set_list ha).imp fun D σ H ⟨n, F, S, own, fl, S', st, hg, q⟩ => by
    unfold gAugIx at hg
    split at hg
    · rename_i hl
      split at hg
      · rename_i j S1 h1
        split at hg
        · rename_i xs h2
          split at hg
          · rename_i k h3
            split at hg
            · rename_i u h4
              split at hg
              · rename_i w S2 h5
                split at hg
                · rename_i ys h6
                  split at hg
                  · rename_i k2 h7
                    cases hg
                    obtain ⟨a, hv, _⟩ := st.isL hl
                    refine ⟨.ref a, hv, n, F, S, own, _, S1, st, h1, fun F1 H1 own1 v1 as1 e1 st1 r1 pu1 => ?_⟩
                    cases r1.int_v
                    obtain ⟨a', cs, vs, hv', e3, h8, h9⟩ := st1.lst h2
                    rw [hv] at hv'
                    cases hv'
                    obtain ⟨_, _, _, v, _, hvk, rv, _⟩ := h9.place h4
                    cases rv.int_v
                    refine ⟨a, vs, j, _, rfl, rfl, h8, Option.bind_eq_some_iff.mpr ⟨k, by rw [h9.length]; exact h3, hvk⟩, ?_⟩
                    refine ⟨n, F1, S1, own1, _, S2, st1, h5, fun F2 H2 own2 v2 as2 e2 st2 r2 pu2 => ?_⟩
                    cases r2.int_v
                    refine ⟨u, w, rfl, rfl, ?_⟩
                    obtain ⟨a', cs, vs, hv', e3, h8, h9⟩ := st2.lst h6
                    rw [hv] at hv'
                    cases hv'
                    obtain ⟨own', st4⟩ := setAt_own st2 h6 hv e3 h9 (Tmp.fz (.int (g u w))) (ixN_lt h7)
                    exact ⟨a, vs, j, k2, rfl, rfl, h8, by rw [h9.length]; exact h7, q F2 _ σ own' (e1.trans e2) st4⟩
                  · cases hg
                · cases hg
              · cases hg
            · cases hg
          · cases hg
        · cases hg
      · cases hg
    · cases hg⟩
/-- x op= e, ints -/
def gAug (g : Int → Int → Int) (i : Nat) (fe : EV) : SM := fun S => match S[i]? with
  | some (.v (.fz (.int u))) => (match fe S with
    | some (.fz (.int w), S1) => (match putS i (.fz (.int (g u w))) S1 with
      | some S2 => some (.nx, S2)
      | none => none)
    | _ => none)
  | _ => none
theorem s_aug {op : Operator} {g : Int → Int → Int} {i : Nat} {pos' : Pos} (hip : PIp X op (ipI g)) (hN : X.N.Nodup) (hi : X.N[i]? = some x) (hx : Loc X.env.scope x) (he : DX X p e f)
    (hf : X.fn x = true ∨ X.env.scope.names.lookup x = some .local := by first | exact .inl rfl | exact .inr rfl | assumption) : DS X (.AugAssign (.Name x pos') op e pos) (gAug g i f) :=
  ⟨(ps_aug hN hi hx he.pe hip hf).imp fun D σ H ⟨n, F, S, own, fl, S', st, hg, q⟩ => by
    unfold gAug at hg
    split at hg
    · rename_i u h1
      split at hg
      · rename_i w S1 h2
        split at hg
        · rename_i S2 h3
          cases hg
          obtain ⟨v, hv, r⟩ := st.slot i _ h1
          cases r.int_v
          refine ⟨_, hv, n, F, S, own, _, S1, st, h2, fun F1 H1 own1 v1 as1 e1 st1 r1 pu1 => ?_⟩
          cases r1.int_v
          exact ⟨u, w, rfl, rfl, q F1 H1 _ _ e1 (st1.putS (Tmp.fz (.int (g u w))) h3)⟩
        · cases hg
      · cases hg
    · cases hg⟩

/-! ### xs[j].append(e) -/
def gAppIx (i : Nat) (fk f : EV) : SM := fun S => if isOl i S then (match fk S with
  | some (.fz (.int j), S1) => (match getS i S1 with
    | some (.ol xs) => (match ixN xs.length j with
      | some k => (match xs[k]? with
        | some (.ol zs) => (match f S1 with
          | some (y, _) => if zs.length < sizeLine then some (.nx, modS i (.ol (xs.set k (.ol (zs ++ [y])))) S1) else none
          | none => none)
        | _ => none)
      | none => none)
    | _ => none)
  | _ => none) else none
theorem s_appIx (i : Nat) (h : PE X (.Name x pos2) (tVar i)) (hk : DX X pb b fb) (he : DO X true e f) (hs : starEach [e] X.env = (false, eval e X.env) :: starEach [] X.env := by rfl) {p3 : Pos}
    (hpx : PlainIx b := by exact fun _ _ => rfl)
    (hbase : attributeBase (.Subscript (.Name x pos2) b p3) "append" X.env (eval (.Subscript (.Name x pos2) b p3) X.env) = eval (.Subscript (.Name x pos2) b p3) X.env := by rfl)
    (hfew : ((backTo cpos (starEach [e] X.env)).all (fun x => !x.1) && (backToKw cpos (keywordEach [] X.env)).all (fun x => x.1.isSome)
      && decide (([e] : List Expr).length + ([] : List Keyword).length + (if ([] : List Keyword).isEmpty then 0 else 1) < 30)) = true := by rfl)
    (hline : (apos.endLine == cpos.line) = true := by rfl) (hsw : swapsWith (.Call (.Attribute (.Subscript (.Name x pos2) b p3) "append" apos) [e] [] cpos) none pos.line X.env = pure false := by rfl) :
    DS X (.Expr (.Call (.Attribute (.Subscript (.Name x pos2) b p3) "append" apos) [e] [] cpos) pos) (gAppIx i fb f) :=
  ⟨(ps_expr (pe_bm PySem.F.plainAttrs_list PySem.F.slot_list_append PySem.F.type_list_append mt_append (pe_ix ix_list h hk.pe hpx) (pa_cons he.pe pa_nil hs) hbase hfew hline hs) hsw).imp fun D σ H ⟨n, F, S, own, fl, S', st, hg, q⟩ => by
    unfold gAppIx at hg
    split at hg
    · rename_i hl
      split at hg
      · rename_i j S1 h1
        split at hg
        · rename_i xs h2
          split at hg
          · rename_i k h3
            split at hg
            · rename_i zs h4
              split at hg
              · rename_i y S2 h5
                split at hg
                · rename_i hz
                  cases hg
                  obtain ⟨a, hv, _⟩ := st.isL hl
                  refine ⟨.ref a, hv, n, F, S, own, _, S1, st, h1, fun F1 H1 own1 v1 as1 e1 st1 r1 pu1 => ?_⟩
                  cases r1.int_v
                  obtain ⟨a', cs, vs, hv', e3, h8, h9⟩ := st1.lst h2
                  rw [hv] at hv'
                  cases hv'
                  obtain ⟨b1, b2, c, v, eb, hvk, rv, g⟩ := h9.place h4
                  obtain ⟨l, ls, us, rfl, ec, hl2, hr2⟩ := rv.ol_inv
                  refine ⟨a, vs, j, .ref l, rfl, rfl, SqL.of h8, Option.bind_eq_some_iff.mpr ⟨k, by rw [h9.length]; exact h3, hvk⟩, .inl ⟨rfl, us, SqL.of hl2⟩, ?_⟩
                  refine ⟨n, F1, S1, own1, y, S2, st1, h5, fun F2 H2 own2 v2 as2 e2 st2 t2 pu2 => ?_⟩
                  obtain ⟨rfl, rfl, hh⟩ := pu2 rfl
                  have h8' := hh _ _ h8
                  have hl2' := hh _ _ hl2
                  refine ⟨l, us, v2, rfl, rfl, hl2', by rw [hr2.length]; exact hz, ?_⟩
                  have hlc : l ∈ own2 i := by
                    rw [e3, eb, ec]
                    exact List.mem_cons_of_mem _ (List.mem_append_right _ (List.mem_append_left _ List.mem_cons_self))
                  have nb := st2.nod i
                  rw [e3, eb, ec] at nb
                  obtain ⟨na, nb⟩ := List.nodup_cons.mp nb
                  obtain ⟨n1, n2, n3⟩ := List.nodup_append.mp nb
                  obtain ⟨m1, m2, m3⟩ := List.nodup_append.mp n2
                  obtain ⟨l1, l2⟩ := List.nodup_cons.mp m1
                  have td : ∀ z ∈ as2, z ∉ own2 i := fun z hz => (t2.out z hz).2.2 i
                  have keepH : ∀ z, z ∈ own2 i → z ≠ l → L2.upd H2 l (.lst (us ++ [v2])) z = H1 z := fun z hz hzl => by
                    rw [upd_ne hzl]
                    obtain ⟨o, ho, _⟩ := st1.dom hz
                    rw [ho]
                    exact hh _ _ ho
                  have memb : ∀ z, z ∈ b1 ∨ z ∈ b2 ∨ z ∈ ls → z ∈ own2 i := fun z hz => by
                    rw [e3, eb, ec]
                    refine List.mem_cons_of_mem _ ?_
                    rcases hz with hz | hz | hz
                    · exact List.mem_append_left _ hz
                    · exact List.mem_append_right _ (List.mem_append_right _ hz)
                    · exact List.mem_append_right _ (List.mem_append_left _ (List.mem_cons_of_mem _ hz))
                  have hal : a ≠ l := fun z => na (by rw [z]; exact List.mem_append_right _ (List.mem_append_left _ List.mem_cons_self))
                  have hav : a ∈ own2 i := by rw [e3]; exact List.mem_cons_self
                  have keepT : ∀ z ∈ as2, L2.upd H2 l (.lst (us ++ [v2])) z = H2 z := fun z hz => upd_ne fun q => td z hz (q ▸ hlc)
                  have inner : RO X.K F2 (L2.upd H2 l (.lst (us ++ [v2]))) (l :: (ls ++ as2)) (.ref l) (.ol (zs ++ [y])) := by
                    refine .ol upd_same ((hr2.frame e2 fun z hz => keepH z (memb z (.inr (.inr hz))) fun q => l1 (q ▸ hz)).append (ROs.one (t2.ro.frame (Same.refl _) keepT)))
                  have whole := g F2 (L2.upd H2 l (.lst (us ++ [v2]))) (l :: (ls ++ as2)) (.ref l) (.ol (zs ++ [y])) e2 (fun z hz => by
                    rcases hz with hz | hz
                    · exact keepH z (memb z (.inl hz)) fun q => n3 z hz l (List.mem_append_left _ List.mem_cons_self) q
                    · exact keepH z (memb z (.inr (.inl hz))) fun q => m3 l List.mem_cons_self z hz q.symm) inner
                  have ev : vs.set k (.ref l) = vs := by
                    apply List.ext_getElem?
                    intro z
                    by_cases hz : k = z
                    · subst hz
                      rw [List.getElem?_set_self (List.getElem?_eq_some_iff.mp hvk).1, hvk]
                    · rw [List.getElem?_set_ne hz]
                  rw [ev] at whole
                  refine q F2 _ σ _ (e1.trans e2) (st2.change (as := a :: (b1 ++ (l :: (ls ++ as2) ++ b2))) h2 hv (fun z hz _ => upd_ne fun q => hz (q ▸ hlc)) (.ol (by rw [upd_ne hal]; exact h8') whole) ?_ ?_)
                  · refine List.nodup_cons.mpr ⟨fun z => ?_, nodup_app n1 (nodup_app (List.nodup_cons.mpr ⟨fun z => ?_, nodup_app l2 t2.nod fun z hz hz2 => td z hz2 (memb z (.inr (.inr hz)))⟩) m2 fun z hz hz2 => ?_) fun z hz hz2 => ?_⟩
                    · rcases List.mem_append.mp z with z | z
                      · exact na (List.mem_append_left _ z)
                      · rcases List.mem_append.mp z with z | z
                        · rcases List.mem_cons.mp z with z | z
                          · exact hal z
                          · rcases List.mem_append.mp z with z | z
                            · exact na (List.mem_append_right _ (List.mem_append_left _ (List.mem_cons_of_mem _ z)))
                            · exact td a z hav
                        · exact na (List.mem_append_right _ (List.mem_append_right _ z))
                    · rcases List.mem_append.mp z with z | z
                      · exact l1 z
                      · exact td l z hlc
                    · rcases List.mem_cons.mp hz with z' | z'
                      · exact m3 l List.mem_cons_self z hz2 z'.symm
                      · rcases List.mem_append.mp z' with z' | z'
                        · exact m3 z (List.mem_cons_of_mem _ z') z hz2 rfl
                        · exact td z z' (memb z (.inr (.inl hz2)))
                    · rcases List.mem_append.mp hz2 with z' | z'
                      · rcases List.mem_cons.mp z' with z' | z'
                        · exact n3 z hz l (List.mem_append_left _ List.mem_cons_self) z'
                        · rcases List.mem_append.mp z' with z' | z'
                          · exact n3 z hz z (List.mem_append_left _ (List.mem_cons_of_mem _ z')) rfl
                          · exact td z z' (memb z (.inl hz))
                      · exact n3 z hz z (List.mem_append_right _ z') rfl
                  · intro z hz
                    rcases List.mem_cons.mp hz with z' | z'
                    · exact .inl (z' ▸ hav)
                    · rcases List.mem_append.mp z' with z' | z'
                      · exact .inl (memb z (.inl z'))
                      · rcases List.mem_append.mp z' with z' | z'
                        · rcases List.mem_cons.mp z' with z' | z'
                          · exact .inl (z' ▸ hlc)
                          · rcases List.mem_append.mp z' with z' | z'
                            · exact .inl (memb z (.inr (.inr z')))
                            · exact .inr (t2.out z z')
                        · exact .inl (memb z (.inr (.inl z')))
                · cases hg
              · cases hg
            · cases hg
          · cases hg
        · cases hg
      · cases hg
    · cases hg⟩
end
end PD
set_option Elab.async false
set_option linter.all false
set_option maxRecDepth 100000
set_option maxHeartbeats 4000000
namespace PD
open PySem PySem.Spec PyProof.Rows L2

/-! ### keys -/
def keyOf : PyData → Option Key
  | .int i => some (.inl i)
  | .str x => some (.inr x)
  | _ => none
def keysOf : List PyData → Option (List Key)
  | [] => some []
  | d :: ds => match keyOf d, keysOf ds with
    | some k, some ks => some (k :: ks)
    | _, _ => none
def tkOf : PyData → Option (List Key)
  | .tuple ds => keysOf ds
  | _ => none
theorem keyOf_ok {d : PyData} {k : Key} (h : keyOf d = some k) : d = kD k := by
  cases d <;> first | (cases h; rfl) | (cases h)
@[simp] theorem keyOf_kD (k : Key) : keyOf (kD k) = some k := by cases k <;> rfl
theorem keysOf_ok : ∀ {ds : List PyData} {ks : List Key}, keysOf ds = some ks → ds = ks.map kD
  | [], _, h => by cases h; rfl
  | d :: ds, ks, h => by
    unfold keysOf at h
    split at h
    · rename_i k ks' h1 h2
      cases h
      rw [keyOf_ok h1, keysOf_ok h2]
      rfl
    · cases h
@[simp] theorem keysOf_kD : ∀ ks : List Key, keysOf (ks.map kD) = some ks
  | [] => rfl
  | k :: ks => by simp [keysOf, keysOf_kD ks]
theorem tkOf_ok {d : PyData} {k : List Key} (h : tkOf d = some k) : d = kT k := by
  unfold tkOf at h
  split at h
  · rw [keysOf_ok h]; rfl
  · cases h
@[simp] theorem tkOf_kT (k : List Key) : tkOf (kT k) = some k := keysOf_kD k
section
variable {K : Frg} {F F' H H' : Hp}
theorem Rp.kd {v : V} {k : Key} (h : Rp K F v (kD k)) : v = kV k := by
  cases k <;> (cases h; rfl)
theorem RpAll.kd : ∀ {vs : List V} {ks : List Key}, RpAll K F vs (ks.map kD) → vs = ks.map kV
  | _, [], h => by cases h; rfl
  | _, k :: ks, h => by
    cases h with
    | cons h r => rw [h.kd, RpAll.kd r]; rfl
theorem Rp.kv (k : Key) : Rp K F (kV k) (kD k) := by cases k <;> constructor
theorem RpAll.kv : ∀ ks : List Key, RpAll K F (ks.map kV) (ks.map kD)
  | [] => .nil
  | k :: ks => .cons (Rp.kv k) (RpAll.kv ks)
theorem Rp.kt {v : V} {k : List Key} (h : Rp K F v (kT k)) : ∃ b, v = .ref b ∧ F b = some (.tup (k.map kV)) := by
  cases h with
  | tup h r => exact ⟨_, rfl, by rw [r.kd] at h; exact h⟩

/-! ### what stands at a key -/
def lookO {κ : Type} [DecidableEq κ] (k : κ) : List κ → List OV → Option OV
  | k' :: ks, x :: xs => if k' = k then some x else lookO k ks xs
  | _, _ => none
inductive AtO (K : Frg) (F H : Hp) : Option OV → Option V → Prop
  | no : AtO K F H none none
  | yes {x : OV} {w : V} {c : List Addr} : RO K F H c w x → AtO K F H (some x) (some w)
theorem look_val {κ : Type} [DecidableEq κ] (k : κ) : ∀ {kvs : List (κ × V)} {as : List Addr} {xs : List OV}, ROs K F H as (kvs.map (·.2)) xs → AtO K F H (lookO k (kvs.map (·.1)) xs) (valV kvs k)
  | [], _, _, h => by cases h; exact .no
  | p :: kvs, _, _, h => by
    rw [List.map_cons] at h
    cases h with
    | cons h r =>
      rename_i as' bs' x xs
      rw [List.map_cons]
      show AtO K F H (if p.1 = k then some x else lookO k (kvs.map (·.1)) xs) _
      by_cases e : p.1 = k
      · rw [if_pos e, valV_pos e]
        exact .yes h
      · rw [if_neg e, valV_neg e]
        exact look_val k r
def dictK : OV → Option (List Key × List OV)
  | .ok ks xs => some (ks, xs)
  | .fz (.dict (p :: ps)) => (keysOf ((p :: ps).map (·.1))).map fun ks => (ks, (p :: ps).map fun q => .fz q.2)
  | _ => none
def tksOf : List PyData → Option (List (List Key))
  | [] => some []
  | d :: ds => match tkOf d, tksOf ds with
    | some k, some ks => some (k :: ks)
    | _, _ => none
theorem tksOf_ok : ∀ {ds : List PyData} {ks : List (List Key)}, tksOf ds = some ks → ds = ks.map kT
  | [], _, h => by cases h; rfl
  | d :: ds, ks, h => by
    unfold tksOf at h
    split at h
    · rename_i k ks' h1 h2
      cases h
      rw [tkOf_ok h1, tksOf_ok h2]
      rfl
    · cases h
@[simp] theorem tksOf_kT : ∀ ks : List (List Key), tksOf (ks.map kT) = some ks
  | [] => rfl
  | k :: ks => by simp [tksOf, tksOf_kT ks]
def dictT : OV → Option (List (List Key) × List OV)
  | .ot ks xs => some (ks, xs)
  | .fz (.dict (p :: ps)) => (tksOf ((p :: ps).map (·.1))).map fun ks => (ks, (p :: ps).map fun q => .fz q.2)
  | _ => none
theorem kD_inj : ∀ {a b : Key}, kD a = kD b → a = b
  | .inl _, .inl _, h => by cases h; rfl
  | .inr _, .inr _, h => by cases h; rfl
  | .inl _, .inr _, h => by cases h
  | .inr _, .inl _, h => by cases h
theorem kD_kT {a : Key} {b : List Key} (h : kD a = kT b) : False := by cases a <;> cases h
theorem map_kD_inj : ∀ {a b : List Key}, a.map kD = b.map kD → a = b
  | [], [], _ => rfl
  | [], _ :: _, h => by simp at h
  | _ :: _, [], h => by simp at h
  | x :: xs, y :: ys, h => by
    simp only [List.map_cons, List.cons.injEq] at h
    rw [kD_inj h.1, map_kD_inj h.2]
theorem kT_inj {a b : List Key} (h : kT a = kT b) : a = b := by
  have : a.map kD = b.map kD := by injection h
  exact map_kD_inj this
theorem map_kT_inj : ∀ {a b : List (List Key)}, a.map kT = b.map kT → a = b
  | [], [], _ => rfl
  | [], _ :: _, h => by simp at h
  | _ :: _, [], h => by simp at h
  | x :: xs, y :: ys, h => by
    simp only [List.map_cons, List.cons.injEq] at h
    rw [kT_inj h.1, map_kT_inj h.2]
theorem RO.dictK {as : List Addr} {v : V} {o : OV} {ks : List Key} {xs : List OV} (h : RO K F H as v o) (e : Same F H) (hd : PD.dictK o = some (ks, xs)) :
    ∃ a kvs cs, v = .ref a ∧ Rd H a (.dK kvs) ∧ kvs.map (·.1) = ks ∧ ROs K F H cs (kvs.map (·.2)) xs := by
  unfold PD.dictK at hd
  split at hd
  · cases hd
    cases h with | ok h1 h2 h3 => exact ⟨_, _, _, rfl, .inl h1, h2, h3⟩
  · rename_i p ps
    obtain ⟨ks', h1, h2⟩ := Option.map_eq_some_iff.mp hd
    cases h2
    have hk := keysOf_ok h1
    cases h.rp with
    | @dcK a kvs _ r1 r2 r3 =>
      refine ⟨_, _, [], rfl, Same.rd e r1, ?_, ?_⟩
      · rw [hk] at r2
        exact map_kD_inj (by rw [List.map_map]; exact r2)
      · have := ROs.fz (H := H) r3
        rw [List.map_map] at this
        exact this
    | @dcT a kvs _ r1 r2 r3 =>
      exfalso
      rw [hk] at r2
      cases kvs with
      | nil => cases ks with
        | nil => simp at hk
        | cons k ks => simp at r2
      | cons q kvs => cases ks with
        | nil => simp at hk
        | cons k ks =>
          simp only [List.map_cons, List.cons.injEq] at r2
          exact kD_kT r2.1.symm
    | scr _ _ => simp [keysOf, keyOf] at h1
  · cases hd
theorem RO.dictT {as : List Addr} {v : V} {o : OV} {ks : List (List Key)} {xs : List OV} (h : RO K F H as v o) (e : Same F H) (hd : PD.dictT o = some (ks, xs)) :
    ∃ a kvs cs, v = .ref a ∧ Rd H a (.dT kvs) ∧ kvs.map (·.1) = ks ∧ ROs K F H cs (kvs.map (·.2)) xs := by
  unfold PD.dictT at hd
  split at hd
  · cases hd
    cases h with | ot h1 h2 h3 => exact ⟨_, _, _, rfl, .inl h1, h2, h3⟩
  · rename_i p ps
    obtain ⟨ks', h1, h2⟩ := Option.map_eq_some_iff.mp hd
    cases h2
    have hk := tksOf_ok h1
    cases h.rp with
    | @dcT a kvs _ r1 r2 r3 =>
      refine ⟨_, _, [], rfl, Same.rd e r1, ?_, ?_⟩
      · rw [hk] at r2
        exact map_kT_inj (by rw [List.map_map]; exact r2)
      · have := ROs.fz (H := H) r3
        rw [List.map_map] at this
        exact this
    | @dcK a kvs _ r1 r2 r3 =>
      exfalso
      rw [hk] at r2
      cases kvs with
      | nil => cases ks with
        | nil => simp at hk
        | cons k ks => simp at r2
      | cons q kvs => cases ks with
        | nil => simp at hk
        | cons k ks =>
          simp only [List.map_cons, List.cons.injEq] at r2
          exact kD_kT r2.1
    | scr _ _ => simp [tksOf, tkOf] at h1
  · cases hd
/-- o at the key d: none if it can't be told, some none if it isn't there -/
def dgO (o : OV) (d : PyData) : Option (Option OV) := match keyOf d with
  | some k => (dictK o).map fun q => lookO k q.1 q.2
  | none => (match tkOf d with
    | some k => (dictT o).map fun q => lookO k q.1 q.2
    | none => none)
theorem dg_get {as : List Addr} {v y : V} {o : OV} {d : PyData} {r : Option OV} (h : RO K F H as v o) (hy : Rp K F y d) (e : Same F H) (hd : dgO o d = some r) :
    ∃ a u, v = .ref a ∧ DGet H a y u ∧ IsD H a ∧ AtO K F H r u := by
  unfold dgO at hd
  split at hd
  · rename_i k hk
    obtain ⟨⟨ks, xs⟩, h1, rfl⟩ := Option.map_eq_some_iff.mp hd
    obtain ⟨a, kvs, cs, rfl, hrd, rfl, hr⟩ := h.dictK e h1
    rw [keyOf_ok hk] at hy
    refine ⟨a, valV kvs k, rfl, .inl ⟨kvs, k, hrd, hy.kd, rfl⟩, .inl ⟨kvs, hrd⟩, ?_⟩
    exact look_val k hr
  · split at hd
    · rename_i k hk
      obtain ⟨⟨ks, xs⟩, h1, rfl⟩ := Option.map_eq_some_iff.mp hd
      obtain ⟨a, kvs, cs, rfl, hrd, rfl, hr⟩ := h.dictT e h1
      rw [tkOf_ok hk] at hy
      obtain ⟨b, rfl, hb⟩ := hy.kt
      refine ⟨a, valV kvs k, rfl, .inr ⟨kvs, k, b, hrd, rfl, e _ _ hb, rfl⟩, .inr ⟨kvs, hrd⟩, ?_⟩
      exact look_val k hr
    · cases hd
end
section
variable {X : Cx} {e e2 a b c : Expr} {es : List Expr} {p pa pb pc : Bool} {f fa fb fc : EV} {ga : EA} {pos pos2 apos cpos : Pos} {K : Frg} {ft ft2 ta tb : EB} {x : Str}
/-! ### d[k] -/
def gDGet : OV → OV → Option OV
  | o, .fz d => (match dgO o d with
    | some (some (.fz u)) => some (.fz u)
    | _ => none)
  | _, _ => none
def rDGet : R2 := fun x y H Q => ∃ a v, x = .ref a ∧ DGet H a y (some v) ∧ Q v H
theorem ox_dget : OpX K rDGet gDGet := by
  intro n F H σ S own x y o1 o2 as bs o Q st rx ry h he
  unfold gDGet at h
  split at h
  · split at h
    · rename_i d u h1
      cases h
      obtain ⟨a, r, rfl, g, _, hw⟩ := dg_get rx ry.rp st.fh h1
      cases hw with | yes hw => exact ⟨a, _, rfl, g, he.val st hw.rp⟩
    · cases h
  · cases h
theorem room1 {k : Nat} (hr : Room k X.A) : X.A.units + 1 < cLine := by have := hr.un; omega
theorem d_dget {k : Nat} (hr : Room k X.A) (ha : DX X pa a fa) (hb : DX X pb b fb) (hs : NoSl b := by exact fun _ _ => rfl) : DO X (pa && pb) (.Subscript a b pos) (eBin gDGet pb fa fb) :=
  ⟨(pe_dget (room1 hr) ha.pe hb.pe hs).imp (bin_imp (r := rDGet) ox_dget)⟩
/-! ### k in d -/
def gDIn (neg : Bool) : OV → OV → Option OV
  | .fz d, o => (match dgO o d with
    | some r => some (.fz (.bool (if neg then !r.isSome else r.isSome)))
    | none => none)
  | _, _ => none
def rDIn (neg : Bool) : R2 := fun y x H Q => ∃ a u, x = .ref a ∧ DGet H a y u ∧ Q (.bl (if neg then !u.isSome else u.isSome)) H
theorem dg_isSome {F H : Hp} {r : Option OV} {u : Option V} (h : AtO K F H r u) : u.isSome = r.isSome := by cases h <;> rfl
theorem ox_din {neg : Bool} : OpX K (rDIn neg) (gDIn neg) := by
  intro n F H σ S own y x o1 o2 as bs o Q st ry rx h he
  unfold gDIn at h
  split at h
  · split at h
    · rename_i d r h1
      cases h
      obtain ⟨a, u, rfl, g, _, hw⟩ := dg_get rx ry.rp st.fh h1
      refine ⟨a, u, rfl, g, ?_⟩
      rw [dg_isSome hw]
      exact he.val st (.bl _)
    · cases h
  · cases h
theorem op_din {k : Nat} (hr : Room k X.A) : OpR X (compareOp .In) (rDIn false) := by
  intro pins s σ H y x v u Q I ry rx h
  obtain ⟨a, w, rfl, g, q⟩ := h
  cases rx
  exact L2.d_in (room1 hr) I g ry fun s' I' => ⟨.bl w.isSome, H, I', rfl, q⟩
theorem op_dnin {k : Nat} (hr : Room k X.A) : OpR X (compareOp .NotIn) (rDIn true) := by
  intro pins s σ H y x v u Q I ry rx h
  obtain ⟨a, w, rfl, g, q⟩ := h
  cases rx
  exact L2.d_notIn (room1 hr) I g ry fun s' I' => ⟨.bl (!w.isSome), H, I', rfl, q⟩
theorem t_din {k : Nat} (hr : Room k X.A) (ha : DX X pa a fa) (hb : DX X pb b fb) (hm : behindInMarks .In b = false := by rfl) : DT X (pa && pb) (.Compare a [.In] [b] pos) (bOf (eBin (gDIn false) pb fa fb)) := t_cmp (op_din hr) ox_din ha hb hm
theorem t_dnin {k : Nat} (hr : Room k X.A) (ha : DX X pa a fa) (hb : DX X pb b fb) (hm : behindInMarks .NotIn b = false := by rfl) : DT X (pa && pb) (.Compare a [.NotIn] [b] pos) (bOf (eBin (gDIn true) pb fa fb)) := t_cmp (op_dnin hr) ox_din ha hb hm
/-! ### d.get(k, x) -/
def eDGet2 (pb pc : Bool) (fa fb fc : EV) : EV := fun S => match fa S with
  | some (o, S1) => if (pb && pc) || o.isFz then (match fb S1 with
    | some (.fz d, S2) => (match fc S2 with
      | some (.fz z, S3) => (match dgO o d with
        | some (some (.fz u)) => some (.fz u, S3)
        | some none => some (.fz z, S3)
        | _ => none)
      | _ => none)
    | _ => none) else none
  | none => none
theorem dg_isD {F H : Hp} {as : List Addr} {v : V} {o : OV} {d : PyData} {r : Option OV} (h : RO K F H as v o) (e : Same F H) (hd : dgO o d = some r) : ∃ a, v = .ref a ∧ IsD H a := by
  unfold dgO at hd
  split at hd
  · obtain ⟨⟨ks, xs⟩, h1, _⟩ := Option.map_eq_some_iff.mp hd
    obtain ⟨a, kvs, cs, rfl, hrd, _⟩ := h.dictK e h1
    exact ⟨a, rfl, .inl ⟨kvs, hrd⟩⟩
  · split at hd
    · obtain ⟨⟨ks, xs⟩, h1, _⟩ := Option.map_eq_some_iff.mp hd
      obtain ⟨a, kvs, cs, rfl, hrd, _⟩ := h.dictT e h1
      exact ⟨a, rfl, .inr ⟨kvs, hrd⟩⟩
    · cases hd
theorem d_dget2 {k : Nat} (hr : Room k X.A) (ha : DX X pa a fa) (hb : DX X pb b fb) (hc : DX X pc c fc) (m : M2 X a "get" apos b c cpos := by exact ⟨rfl, rfl, rfl, rfl⟩) : DO X (pa && (pb && pc)) (.Call (.Attribute a "get" apos) [b, c] [] cpos) (eDGet2 pb pc fa fb fc) :=
  ⟨(pe_dget2 (room1 hr) ha.pe hb.pe hc.pe m).imp fun σ H Q ⟨n, F, S, own, o, S', st, hf, q⟩ => by
    unfold eDGet2 at hf
    split at hf
    · rename_i o1 S1 h1
      split at hf
      · rename_i hfz
        split at hf
        · rename_i d S2 h2
          split at hf
          · rename_i z S3 h3
            have hd : ∃ r, dgO o1 d = some r := by
              revert hf
              split <;> intro hf
              · rename_i u h4; exact ⟨_, h4⟩
              · rename_i h4; exact ⟨_, h4⟩
              · cases hf
            obtain ⟨r, hd⟩ := hd
            refine ⟨n, F, S, own, _, S1, st, h1, fun F1 H1 own1 v1 as1 e1 st1 r1 pu1 => ?_⟩
            obtain ⟨a, rfl, hid⟩ := dg_isD r1 st1.fh hd
            refine ⟨a, rfl, hid, n, F1, S1, own1, _, S2, st1, h2, fun F2 H2 own2 v2 as2 e2 st2 r2 pu2 => ?_⟩
            refine ⟨n, F2, S2, own2, _, S3, st2, h3, fun F3 H3 own3 v3 as3 e3 st3 r3 pu3 => ?_⟩
            have r1' := r1.persist (n := n) (σ := σ) (e2.trans e3) hfz (pu2.trans pu3)
            obtain ⟨a', u, ea, g, _, hw⟩ := dg_get r1' (r2.rp.mono e3) st3.fh hd
            cases ea
            refine ⟨u, g, ?_⟩
            have pu : Pu (pa && (pb && pc)) S S3 own own3 H H3 := pu1.trans (pu2.trans pu3)
            rw [hd] at hf
            cases hw with
            | no =>
              cases hf
              exact q F3 H3 own3 v3 [] (e1.trans (e2.trans e3)) st3 (Tmp.fz r3.rp) pu
            | @yes x w c' hx =>
              cases x with
              | fz u =>
                cases hf
                exact q F3 H3 own3 w [] (e1.trans (e2.trans e3)) st3 (Tmp.fz hx.rp) pu
              | _ => cases hf
          · cases hf
        · cases hf
      · cases hf
    · cases hf⟩

/-! ### {}, {k: v} -/
def eNewK : EV := fun S => some (.ok [] [], S)
def eNewT : EV := fun S => some (.ot [] [], S)
theorem d_newK : DO X true (.Dict [] [] pos) eNewK := ⟨pe_dnewK.imp fun σ H Q ⟨n, F, S, own, o, S', st, hf, q⟩ => by
  cases hf
  intro p hp
  obtain ⟨s2, e2, h1, h2, h3⟩ := st.layOwn (o := .dK []) hp
  refine q F _ own (.ref p) [p] (Same.refl F) s2 ⟨.ok upd_same rfl .nil, by simp, fun a ha => ?_⟩ (Pu.same e2)
  have : a = p := by simpa using ha
  subst this
  exact ⟨h1, h2, h3⟩⟩
theorem d_newT : DO X true (.Dict [] [] pos) eNewT := ⟨pe_dnewT.imp fun σ H Q ⟨n, F, S, own, o, S', st, hf, q⟩ => by
  cases hf
  intro p hp
  obtain ⟨s2, e2, h1, h2, h3⟩ := st.layOwn (o := .dT []) hp
  refine q F _ own (.ref p) [p] (Same.refl F) s2 ⟨.ot upd_same rfl .nil, by simp, fun a ha => ?_⟩ (Pu.same e2)
  have : a = p := by simpa using ha
  subst this
  exact ⟨h1, h2, h3⟩⟩
def tDisp1T (tk tv : TE) : TE := fun σ H Q => ∀ p, H p = none → tk σ (L2.upd H p (.dT [])) fun x H1 => tv σ H1 fun y H2 => H2 p = some (.dT []) ∧ ∃ ks b, x = .ref b ∧ H2 b = some (.tup (ks.map kV)) ∧ Q (.ref p) (L2.upd H2 p (.dT [(ks, y)]))
theorem pe_disp1T {k v : Expr} {tk tv : TE} {r : Nat} (hr : Room r X.A) (hk : PE X k tk) (hv : PE X v tv) : PE X (.Dict [some k] [v] pos) (tDisp1T tk tv) := by
  refine ⟨fun pins s σ H Q I q => ?_⟩
  have hn := I.hok.fresh (Nat.le_refl s.heap.objs.size)
  have I1 := I.laid (a := s.heap.objs.size) (o := .dT []) (h' := s.heap.push { cls := .type "dict", data := .dict #[] }) (t' := s.toks) (fun _ _ q => Heap.get?_push_of_some _ q) (Nat.le_refl _) (dt_empty s.heap I.big)
  rw [arm_eval_Dict, zip_pairTrees [some k] [v] X.env pos rfl rfl, dictDisplay_pairs _ (by simp [pairTrees]) (by simp [pairTrees])]
  refine wpAny_bind (wpAny_standAt (wpAny_bind ?_))
  unfold subDict
  refine wpAny_bind (wpAny_alloc ?_)
  refine wpAny_bind (wpAny_holding ?_)
  rw [if_pos (by simp [pairTrees])]
  refine wpAny_bind (pairTrees_cons_walk (thn (hk.run pins _ σ _ _ I1 (q _ hn)) fun u s1 ⟨x, H1, I2, rx, q1⟩ => thn (hv.run pins s1 σ H1 _ I2 q1) fun w2 s2 ⟨y, H2, I3, ry, hp, ks, b, ex, hb, q2⟩ => pairTrees_nil_walk ?_))
  subst ex
  cases rx
  refine wpAny_holding ?_
  obtain ⟨z, hd, xs, rel, dd⟩ := dt_of I3.hok hp
  cases rel
  refine wpAny_bind ?_
  rw [List.forIn_cons]
  refine wpAny_bind (wpAny_bind (wpAny_dictSet_heap (knd := tupleKind (mixKind X.prog X.w)) (hsz := Nat.zero_le _) (show X.A.units < cLine by have := room1 hr; omega) (key_of I3.hok hb) dd fun h' dd' hs => wpAny_pure ?_))
  refine wpAny_pure (wpAny_pure (wpAny_pure (wpAny_pure ?_)))
  obtain ⟨q', es, ep, hq, h2, h3, h4, _, h5⟩ := dd'
  refine ⟨.ref s.heap.objs.size, L2.upd H2 s.heap.objs.size (.dT [(ks, y)]), d_write I3 (by rw [hp]; exact True.intro) hs ⟨q', hq⟩ ⟨by show 1 ≤ sizeLine; decide, hd, _, ?_, q', es, ep, hq, h2, h3, h4, h5⟩, rfl, q2⟩
  have hne : b ≠ s.heap.objs.size := ne_of hb hp (fun z => nomatch z)
  exact .cons ⟨rfl, (upd_ne hne).trans hb, ry⟩ .nil
def eDisp1T (fk fv : EV) : EV := fun S => match fk S with
  | some (.fz d, S1) => (match tkOf d with
    | some ks => (match fv S1 with
      | some (y, S2) => some (.ot [ks] [y], S2)
      | none => none)
    | none => none)
  | _ => none
theorem d_disp1T {k v : Expr} {r : Nat} {fk fv : EV} (hr : Room r X.A) (hk : DX X pa k fk) (hv : DO X pb v fv) : DO X (pa && pb) (.Dict [some k] [v] pos) (eDisp1T fk fv) :=
  ⟨(pe_disp1T hr hk.pe hv.pe).imp fun σ H Q ⟨n, F, S, own, o, S', st, hf, q⟩ => by
    unfold eDisp1T at hf
    split at hf
    · rename_i d S1 h1
      split at hf
      · rename_i ks h2
        split at hf
        · rename_i y S2 h3
          cases hf
          intro p hp
          obtain ⟨s2, e2, g1, g2, g3⟩ := st.layOwn (o := .dT []) hp
          have t : Tmp X.K n F (L2.upd H p (.dT [])) own [p] (.ref p) (.ot [] []) := ⟨.ot upd_same rfl .nil, by simp, fun a ha => by
            have : a = p := by simpa using ha
            subst this
            exact ⟨g1, g2, g3⟩⟩
          refine ⟨_, F, S, own, _, S1, t.aside s2, h1, fun F1 H1 own1 x as1 e1 st1 r1 pu1 => ?_⟩
          refine ⟨_, F1, S1, own1, y, S', st1, h3, fun F2 H2 own2 v2 as2 e2' st2 t2 pu2 => ?_⟩
          obtain ⟨st3, t3⟩ := t.back s2 (e1.trans e2') st2
          have hp2 : H2 p = some (.dT []) := by
            cases t3.ro with
            | @ot _ _ kvs _ _ h4 h5 h6 =>
              cases kvs with
              | nil => exact h4
              | cons => simp at h5
          have hk' := r1.rp
          rw [tkOf_ok h2] at hk'
          obtain ⟨b, rfl, hb⟩ := hk'.kt
          have hb2 : H2 b = some (.tup (ks.map kV)) := st3.fh _ _ (e2' _ _ hb)
          obtain ⟨z1, z2, z3⟩ := t3.out p (by simp)
          have hpa : ∀ a ∈ as2, a ≠ p ∧ n.R a = none := fun a ha => by
            have := (t2.out a ha).2.1
            by_cases z : a = p
            · exfalso
              rw [z] at this
              have hw : (n.with (L2.upd H p (.dT [])) [p]).R p = L2.upd H p (.dT []) p := adds_in (by simp)
              rw [hw, upd_same] at this
              cases this
            · exact ⟨z, by rw [show (n.with (L2.upd H p (.dT [])) [p]).R a = n.R a from adds_out (by simpa using z)] at this; exact this⟩
          refine ⟨hp2, ks, b, rfl, hb2, ?_⟩
          have hfr : ∀ a ∈ as2, L2.upd H2 p (.dT [(ks, v2)]) a = H2 a := fun a ha => upd_ne (hpa a ha).1
          refine q F2 _ own2 (.ref p) (p :: as2) (e1.trans e2') (st3.upd z1 z2 z3) ⟨.ot upd_same rfl (ROs.one (t2.ro.frame (Same.refl F2) hfr)), List.nodup_cons.mpr ⟨fun z => (hpa p z).1 rfl, t2.nod⟩, fun a ha => ?_⟩ fun hpp => ?_
          · rcases List.mem_cons.mp ha with z | z
            · subst z; exact ⟨z1, z2, z3⟩
            · exact ⟨(t2.out a z).1, (hpa a z).2, (t2.out a z).2.2⟩
          · simp only [Bool.and_eq_true] at hpp
            obtain ⟨a1, a2, a3⟩ := pu1 hpp.1
            obtain ⟨b1, b2, b3⟩ := pu2 hpp.2
            refine ⟨b1.trans a1, b2.trans a2, fun a u hu => ?_⟩
            have hne : a ≠ p := ne_of_none hu hp
            rw [upd_ne hne]
            exact b3 _ _ (a3 _ _ (e2 _ _ hu))
        · cases hf
      · cases hf
    · cases hf⟩

/-! ### d[k] = e -/
def putO {κ : Type} [DecidableEq κ] (k : κ) (y : OV) : List κ → List OV → List κ × List OV
  | k' :: ks, x :: xs => if k' = k then (k' :: ks, y :: xs) else (k' :: (putO k y ks xs).1, x :: (putO k y ks xs).2)
  | _, _ => ([k], [y])
theorem putK_ne {κ : Type} [DecidableEq κ] {k : κ} {p : κ × V} {r : List (κ × V)} {v : V} (h : p.1 ≠ k) : putK (p :: r) k v = p :: putK r k v := by
  unfold putK
  simp only [List.any_cons, decide_eq_false h, Bool.false_or, List.map_cons, if_neg h]
  split <;> simp
theorem putK_eq {κ : Type} [DecidableEq κ] {k : κ} {p : κ × V} {r : List (κ × V)} {v : V} (h : p.1 = k) (hn : k ∉ r.map (·.1)) : putK (p :: r) k v = (p.1, v) :: r := by
  unfold putK
  simp only [List.any_cons, decide_eq_true h, Bool.true_or, if_true, List.map_cons, if_pos h]
  congr 1
  conv => rhs; rw [← List.map_id r]
  apply List.map_congr_left
  intro q hq
  have : q.1 ≠ k := fun z => hn (z ▸ List.mem_map_of_mem hq)
  rw [if_neg this]
  rfl
theorem put_ros {κ : Type} [DecidableEq κ] {k : κ} {v : V} {y : OV} {cs : List Addr} {F H : Hp} {K : Frg} (hy : RO K F H cs v y) : ∀ {kvs : List (κ × V)} {as : List Addr} {xs : List OV}, (kvs.map (·.1)).Nodup → ROs K F H as (kvs.map (·.2)) xs →
    (putK kvs k v).map (·.1) = (putO k y (kvs.map (·.1)) xs).1 ∧ ∃ b1 b2, ROs K F H (b1 ++ (cs ++ b2)) ((putK kvs k v).map (·.2)) (putO k y (kvs.map (·.1)) xs).2 ∧ (b1 ++ b2).Sublist as
  | [], _, _, _, h => by
    cases h
    refine ⟨by simp [putK, putO], [], [], ?_, List.Sublist.refl _⟩
    show ROs K F H (cs ++ []) [v] [y]
    exact .cons hy .nil
  | p :: kvs, _, _, hn, h => by
    rw [List.map_cons] at h hn
    obtain ⟨hn1, hn2⟩ := List.nodup_cons.mp hn
    cases h with
    | cons h r =>
      rename_i as' bs' x xs
      by_cases e : p.1 = k
      · rw [putK_eq e (by rw [← e]; exact hn1)]
        simp only [List.map_cons, putO, if_pos e]
        exact ⟨trivial, [], bs', show ROs K F H (cs ++ bs') (v :: _) (y :: _) from .cons hy r, List.sublist_append_right as' bs'⟩
      · rw [putK_ne e]
        simp only [List.map_cons, putO, if_neg e]
        obtain ⟨i1, b1, b2, i2, i3⟩ := put_ros hy hn2 r
        refine ⟨by rw [i1], as' ++ b1, b2, ?_, ?_⟩
        · rw [List.append_assoc]
          exact .cons h i2
        · rw [List.append_assoc]
          exact List.Sublist.append (List.Sublist.refl as') i3
def isDc (i : Nat) (S : SS) : Bool := match getS i S with
  | some (.ok _ _) => true
  | some (.ot _ _) => true
  | _ => false
/-- the own dict o with y at the key d -/
def putD (o : OV) (d : PyData) (y : OV) : Option OV := match o with
  | .ok ks xs => (match keyOf d with
    | some k => if ks.Nodup ∧ ks.length < sizeLine then some (.ok (putO k y ks xs).1 (putO k y ks xs).2) else none
    | none => none)
  | .ot ks xs => (match tkOf d with
    | some k => if ks.Nodup ∧ ks.length < sizeLine then some (.ot (putO k y ks xs).1 (putO k y ks xs).2) else none
    | none => none)
  | _ => none
def gDPut (i : Nat) (fv fk : EV) : SM := fun S => match fv S with
  | some (y, S1) => if isDc i S1 then (match fk S1 with
    | some (.fz d, S2) => (match getS i S2 with
      | some o => (match putD o d y with
        | some o' => some (.nx, modS i o' S2)
        | none => none)
      | none => none)
    | _ => none) else none
  | none => none
theorem isDc_ok {n : Ent} {F H : Hp} {σ : L2.St} {S : SS} {own : Nat → List Addr} {i : Nat} (st : St K n F H σ S own) (h : isDc i S = true) : ∃ a, σ[i]? = some (some (.ref a)) := by
  unfold isDc at h
  split at h
  · rename_i ks xs e
    obtain ⟨v, h1, h2⟩ := st.read e
    generalize own i = z at h2
    cases h2 with | ok => exact ⟨_, h1⟩
  · rename_i ks xs e
    obtain ⟨v, h1, h2⟩ := st.read e
    generalize own i = z at h2
    cases h2 with | ot => exact ⟨_, h1⟩
  · cases h
theorem putD_ok {n : Ent} {F H : Hp} {σ : L2.St} {S : SS} {own : Nat → List Addr} {i : Nat} {o o' y : OV} {d : PyData} {a : Addr} {v w : V} {cs : List Addr} (st : St K n F H σ S own) (h : getS i S = some o) (hv : σ[i]? = some (some (.ref a))) (hd : putD o d y = some o') (hk : Rp K F w d) (t : Tmp K n F H own cs v y) :
    ∃ H' own', DPut H a w v H' ∧ St K n F H' σ (modS i o' S) own' := by
  obtain ⟨v', h1, h2⟩ := st.read h
  rw [hv] at h1
  cases h1
  have ho := st.nod i
  generalize eo : own i = os at h2 ho
  unfold putD at hd
  split at hd
  · rename_i ks xs
    split at hd
    · rename_i k hk'
      split at hd
      · rename_i hn
        cases hd
        cases h2 with
        | @ok _ as kvs _ _ g1 g2 g3 =>
          subst g2
          rw [keyOf_ok hk'] at hk
          have hw := hk.kd
          subst hw
          obtain ⟨ho1, ho2⟩ := List.nodup_cons.mp ho
          have hdis : ∀ b ∈ as, b ∉ cs := fun b hb hc => (t.out b hc).2.2 i (by rw [eo]; exact List.mem_cons_of_mem _ hb)
          have hac : a ∉ cs := fun hc => (t.out a hc).2.2 i (by rw [eo]; exact List.mem_cons_self)
          obtain ⟨p1, b1, b2, p2, p3⟩ := put_ros (k := k) t.ro hn.1 g3
          have hsub : ∀ z, z ∈ b1 ∨ z ∈ b2 → z ∈ as := fun z hz => p3.subset (List.mem_append.mpr hz)
          have hnd := p3.nodup ho2
          obtain ⟨n1, n2, n3⟩ := List.nodup_append.mp hnd
          have han : a ∉ b1 ++ (cs ++ b2) := fun z => by
            rcases List.mem_append.mp z with z | z
            · exact ho1 (hsub _ (.inl z))
            · rcases List.mem_append.mp z with z | z
              · exact hac z
              · exact ho1 (hsub _ (.inr z))
          refine ⟨_, _, .k g1 (by simpa using hn.2), st.change (as := a :: (b1 ++ (cs ++ b2))) h hv (fun b hb _ => upd_ne fun z => hb (by rw [z, eo]; exact List.mem_cons_self)) (.ok upd_same p1 (p2.frame (Same.refl F) fun z hz => upd_ne fun q => han (q ▸ hz))) (List.nodup_cons.mpr ⟨han, nodup_app n1 (nodup_app t.nod n2 fun z hz hz2 => hdis z (hsub z (.inr hz2)) hz) fun z hz hz2 => ?_⟩) fun z hz => ?_⟩
          · rcases List.mem_append.mp hz2 with q | q
            · exact hdis z (hsub z (.inl hz)) q
            · exact n3 z hz z q rfl
          · rcases List.mem_cons.mp hz with q | q
            · exact .inl (by rw [q, eo]; exact List.mem_cons_self)
            · rcases List.mem_append.mp q with q | q
              · exact .inl (by rw [eo]; exact List.mem_cons_of_mem _ (hsub z (.inl q)))
              · rcases List.mem_append.mp q with q | q
                · exact .inr (t.out z q)
                · exact .inl (by rw [eo]; exact List.mem_cons_of_mem _ (hsub z (.inr q)))
      · cases hd
    · cases hd
  · rename_i ks xs
    split at hd
    · rename_i k hk'
      split at hd
      · rename_i hn
        cases hd
        cases h2 with
        | @ot _ as kvs _ _ g1 g2 g3 =>
          subst g2
          rw [tkOf_ok hk'] at hk
          obtain ⟨kb, rfl, hkb⟩ := hk.kt
          obtain ⟨ho1, ho2⟩ := List.nodup_cons.mp ho
          have hdis : ∀ b ∈ as, b ∉ cs := fun b hb hc => (t.out b hc).2.2 i (by rw [eo]; exact List.mem_cons_of_mem _ hb)
          have hac : a ∉ cs := fun hc => (t.out a hc).2.2 i (by rw [eo]; exact List.mem_cons_self)
          obtain ⟨p1, b1, b2, p2, p3⟩ := put_ros (k := k) t.ro hn.1 g3
          have hsub : ∀ z, z ∈ b1 ∨ z ∈ b2 → z ∈ as := fun z hz => p3.subset (List.mem_append.mpr hz)
          have hnd := p3.nodup ho2
          obtain ⟨n1, n2, n3⟩ := List.nodup_append.mp hnd
          have han : a ∉ b1 ++ (cs ++ b2) := fun z => by
            rcases List.mem_append.mp z with z | z
            · exact ho1 (hsub _ (.inl z))
            · rcases List.mem_append.mp z with z | z
              · exact hac z
              · exact ho1 (hsub _ (.inr z))
          refine ⟨_, _, .t g1 (st.fh _ _ hkb) (by simpa using hn.2), st.change (as := a :: (b1 ++ (cs ++ b2))) h hv (fun b hb _ => upd_ne fun z => hb (by rw [z, eo]; exact List.mem_cons_self)) (.ot upd_same p1 (p2.frame (Same.refl F) fun z hz => upd_ne fun q => han (q ▸ hz))) (List.nodup_cons.mpr ⟨han, nodup_app n1 (nodup_app t.nod n2 fun z hz hz2 => hdis z (hsub z (.inr hz2)) hz) fun z hz hz2 => ?_⟩) fun z hz => ?_⟩
          · rcases List.mem_append.mp hz2 with q | q
            · exact hdis z (hsub z (.inl hz)) q
            · exact n3 z hz z q rfl
          · rcases List.mem_cons.mp hz with q | q
            · exact .inl (by rw [q, eo]; exact List.mem_cons_self)
            · rcases List.mem_append.mp q with q | q
              · exact .inl (by rw [eo]; exact List.mem_cons_of_mem _ (hsub z (.inl q)))
              · rcases List.mem_append.mp q with q | q
                · exact .inr (t.out z q)
                · exact .inl (by rw [eo]; exact List.mem_cons_of_mem _ (hsub z (.inr q)))
      · cases hd
    · cases hd
  · cases hd
theorem s_dput (i : Nat) {k : Nat} (hr : Room k X.A) (h : PE X (.Name x pos2) (tVar i)) (hk : DX X pb b fb) (he : DO X p e f) (hs : swapsWith e (some (.Subscript (.Name x pos2) b apos)) pos.line X.env = pure false := by rfl) :
    DS X (.Assign [.Subscript (.Name x pos2) b apos] e pos) (gDPut i f fb) :=
  ⟨(ps_dput (room1 hr) h hk.pe he.pe hs).imp fun D σ H ⟨n, F, S, own, fl, S', st, hg, q⟩ => by
    unfold gDPut at hg
    split at hg
    · rename_i y S1 h1
      split at hg
      · rename_i hl
        split at hg
        · rename_i d S2 h2
          split at hg
          · rename_i o h3
            split at hg
            · rename_i o' h4
              cases hg
              refine ⟨n, F, S, own, y, S1, st, h1, fun F1 H1 own1 v as e1 st1 t1 pu1 => ?_⟩
              obtain ⟨a, hv⟩ := isDc_ok st1 hl
              refine ⟨.ref a, hv, n.with H1 as, F1, S1, own1, _, S2, t1.aside st1, h2, fun F2 H2 own2 w bs e2 st2 r2 pu2 => ?_⟩
              obtain ⟨st3, t3⟩ := t1.back st1 e2 st2
              obtain ⟨H4, own4, hput, st4⟩ := putD_ok st3 h3 hv h4 r2.rp t3
              exact ⟨a, H4, rfl, hput, q F2 _ σ own4 (e1.trans e2) st4⟩
            · cases hg
          · cases hg
        · cases hg
      · cases hg
    · cases hg⟩
end
end PD
set_option Elab.async false
set_option linter.all false
set_option maxRecDepth 100000
set_option maxHeartbeats 4000000
namespace PD
open PySem PySem.Spec PyProof.Rows L2

/-! ### for k, v in d.items(), d an own dict that is frozen then -/
def Itit (d : Addr) (o : Obj) (kvs : List (List Key × V)) : It :=
  ⟨fun i H => H d = some (.frz o (.dT kvs)) ∧ i < kvs.length, fun i H v H' => ∃ T k x q, kvs[i]? = some (k, x) ∧ H q = some (.tup (k.map kV)) ∧ v = .ref T ∧ H T = none ∧ H' = L2.upd H T (.tup [.ref q, x]),
    fun i H => H d = some (.frz o (.dT kvs)) ∧ kvs.length ≤ i⟩
theorem frzTv {X : Cx} {pins : List (Addr × Obj)} {σ : L2.St} {H : Hp} {s : Shared} {d : Addr} {o : Obj} {kvs : List (List Key × V)} (I : L2.Inv X pins σ H s) (h : H d = some (.frz o (.dT kvs))) :
    (d == sysModules) = false ∧ s.heap.get? d = some o ∧ o.ExactDict ∧ ∃ (es : Array DictEntry) (ep : Nat), o.data = .dict es ep ∧ es.size = kvs.length ∧
      ∀ (i : Nat) (k : List Key) (v : V), kvs[i]? = some (k, v) → ∃ (en : DictEntry) (q : Addr), es[i]? = some en ∧ en.key = .ref q ∧ H q = some (.tup (k.map kV)) ∧ RelV v en.val := by
  obtain ⟨hd, z, hs, xs, pr, o', es, ep, ho, hx, hdt, he, _⟩ := I.hok d _ h
  rw [hd] at ho
  cases ho
  refine ⟨hs, hd, hx, es, ep, hdt, ?_, fun i k v e => ?_⟩
  · have l1 : es.size = xs.length := size_of_entries he
    have l2 : kvs.length = xs.length := Paired.length pr
    omega
  · obtain ⟨b, hb, e1, e2, e3⟩ := paired_get pr e
    have q := entry_at he i
    rw [hb] at q
    exact ⟨_, b.2.1, q, rfl, e2, e3⟩
section
variable {P : Program} {w : World} {K : Frg} {elts : List Expr} {kk : Nat} {tpos : Pos}
theorem turn_itemsT {d it : Addr} {o : Obj} {es : Array DictEntry} {ep : Nat} {kvs : List (List Key × V)} (hod : o.data = .dict es ep) (hes : es.size = kvs.length) :
    Turn P w K (.Tuple elts kk tpos) (Itit d o kvs) [it] it (fun i h => ∃ ok ov, IsItemIter h it d i kvs.length ep ok ov) where
  mem := by simp
  obj := fun i h st b hb => by
    have e : b = it := by simpa using hb
    subst e
    obtain ⟨ok, ov, e⟩ := st
    exact ⟨_, e, fun v z => nomatch z⟩
  keep := fun i h h' st k => let ⟨ok, ov, e⟩ := st; ⟨ok, ov, k it (by simp) _ e⟩
  item := by
    intro X hP hw hK hc i pins s σ H E I hf st hg
    subst hP hw hK
    obtain ⟨hd, hi⟩ := hg
    obtain ⟨hs, hgd, hx, es', ep', hdt, hsz, ent⟩ := frzTv I hd
    obtain ⟨rfl, rfl⟩ := dict_ep hod hdt
    obtain ⟨⟨k, v⟩, hkv⟩ : ∃ p, kvs[i]? = some p := ⟨kvs[i], List.getElem?_eq_getElem hi⟩
    obtain ⟨en, q, hen, hkey, hq, hval⟩ := ent i k v hkv
    have hne : d ≠ it := fun z => by rw [z, (hf it (by simp)).1] at hd; cases hd
    have W := GoesN.rawItems (prog := X.prog) (w := X.w) (A := X.A) (elts := elts) (x1 := kk) (pos := tpos) (by first | exact I.ok.hd hc | simpa using I.ok.hd hc) it d hne es' ep'
    refine wpAny_mono (W.goes i s (fun v s₂ => ∃ x H', L2.Inv X pins σ H' s₂ ∧ RelV x v ∧ (Itit d o kvs).yld i H x H' ∧ (∃ ok ov, IsItemIter s₂.heap it d (i + 1) kvs.length ep' ok ov) ∧ ∀ b ∈ [it], H' b = none) E
      (by rw [hes]; exact hi) ⟨by rw [hes]; exact st, ⟨o, hgd, hx, hdt⟩⟩ fun u h' tk hY hS hk htk => ?_) (fun r s1 h1 => h1) fun _ _ z => z
    obtain ⟨T, hi', rfl, hT, hTup⟩ := hY
    have hen' : es'[i] = en := by
      rw [Array.getElem?_eq_getElem hi'] at hen
      exact Option.some.inj hen
    rw [hen', hkey] at hTup
    have new : ObjOk X.prog X.w (L2.upd H T (.tup [.ref q, v])) h' T (.tup [.ref q, v]) :=
      ⟨by show 2 ≤ sizeLine; decide, [.ref q, en.val], .cons rfl (.cons hval .nil), hTup⟩
    refine ⟨.ref T, _, I.turnedNew (ch := [it]) hk hf hT new, rfl, ⟨T, k, v, q, hkv, hq, rfl, I.hok.fresh hT, rfl⟩, by rw [← hes]; exact hS.1, fun b hb => ?_⟩
    have e : b = it := by simpa using hb
    subst e
    obtain ⟨ok, ov, he⟩ := st
    rw [upd_ne (Nat.ne_of_lt (Nat.lt_of_lt_of_le (Heap.lt_size he) hT))]
    exact (hf b hb).1
  done := by
    intro X hP hw hK hc i pins s σ H E I hf st hg
    subst hP hw hK
    obtain ⟨hd, hi⟩ := hg
    obtain ⟨hs, hgd, hx, es', ep', hdt, hsz, ent⟩ := frzTv I hd
    obtain ⟨rfl, rfl⟩ := dict_ep hod hdt
    obtain ⟨ok, ov, he⟩ := st
    obtain ⟨f0, f1, f2, f3, f4, f5⟩ := hf it (by simp)
    rw [← hes] at he
    exact wpAny_pyNext_items_end_raw (I.ok.hd hc) he ⟨o, hgd, hx, hdt⟩ (by omega) fun h' eb => ⟨rfl, I.turned (t' := s.toks) (fun b ob hb e => eb b ob hb e) f0 f1 f3 f4 f5⟩
  self := fun A i s Q E st h => let ⟨_, _, e⟩ := st; PySem.W.kcp_self e h
end
section
variable {X : Cx} {K : Frg} {n : Ent} {F F' H H' : Hp} {σ : L2.St} {S : SS} {own : Nat → List Addr}
theorem St.freezeAt {as : List Addr} (s : St K n F H σ S own) (out : ∀ a ∈ as, F a = none ∧ n.R a = none ∧ ∀ i, a ∉ own i) : St K n (adds F H as) H σ S own ∧ Same F (adds F H as) := by
  have e1 : Same F (adds F H as) := fun a o q => by
    rw [adds_out fun z => by rw [(out a z).1] at q; cases q]; exact q
  refine ⟨⟨fun a o q => ?_, s.rh, fun a o q => e1 _ _ (s.f0 a o q), fun a o q => ?_, s.len, fun i o q => ?_, fun i o q => ?_, s.un, s.nod, s.dis, fun i a h => ⟨?_, (s.out i a h).2⟩⟩, e1⟩
  · by_cases z : a ∈ as
    · rw [adds_in z] at q; exact q
    · rw [adds_out z] at q; exact s.fh a o q
  · by_cases z : a ∈ as
    · exact .inr (.inl (out a z).2.1)
    · rw [adds_out z] at q; exact s.good a o q
  · obtain ⟨v, h1, h2⟩ := s.slot i o q
    exact ⟨v, h1, h2.frame e1 fun _ _ => rfl⟩
  · exact ⟨(s.slio i o q).1, (s.slio i o q).2.frame e1 fun _ _ => rfl⟩
  · rw [adds_out fun z => (out a z).2.2 i h]; exact (s.out i a h).1
def itemsOf : PyData → List PyData
  | .dict ps => ps.map fun p => .tuple [p.1, p.2]
  | _ => []
theorem zip_get {α β : Type} {xs : List α} {ys : List β} {i : Nat} {x : α} {y : β} (h1 : xs[i]? = some x) (h2 : ys[i]? = some y) : (xs.zip ys)[i]? = some (x, y) := by
  rw [List.getElem?_zip_eq_some]; exact ⟨h1, h2⟩
theorem wk_itemsT {d : Addr} {o : Obj} {kvs : List (List Key × V)} {ds : List PyData} (h : F d = some (.frz o (.dT kvs))) (r : RpAll K F (kvs.map (·.2)) ds) : Wk K F (Itit d o kvs) (itemsOf (.dict (((kvs.map (·.1)).map kT).zip ds))) where
  go := fun i H e hi => ⟨e _ _ h, by simp [itemsOf] at hi; omega⟩
  stop := fun H e => ⟨e _ _ h, by have := r.length; simp [itemsOf] at this ⊢; omega⟩
  yld := fun n i F1 H1 σ S own x H2 e st hi y => by
    obtain ⟨T, k, v, q, hkv, hq, rfl, hT, rfl⟩ := y
    obtain ⟨s2, e2⟩ := st.still
    have hq2 : tupsOf F1 H1 q = some (.tup (k.map kV)) := tupsOf_of st.fh hq rfl
    obtain ⟨s3, e3, e4⟩ := s2.lay (o := .tup [.ref q, v]) hT
    have hv : (kvs.map (·.2))[i]? = some v := by rw [List.getElem?_map, hkv]; rfl
    obtain ⟨dv, h1, h2⟩ := r.get' hv
    have hk : ((kvs.map (·.1)).map kT)[i]? = some (kT k) := by rw [List.getElem?_map, List.getElem?_map, hkv]; rfl
    refine ⟨_, e2.trans e3, s3, e4, .tuple [kT k, dv], ?_, .tup upd_same (.cons (.tup (e3 _ _ hq2) (RpAll.kv k)) (.cons (h2.mono (e.trans (e2.trans e3))) .nil))⟩
    show (List.map (fun p : PyData × PyData => PyData.tuple [p.1, p.2]) _)[i]? = _
    rw [List.getElem?_map, zip_get hk h1]
    rfl
theorem wk_itemsK {d : Addr} {o : Obj} {kvs : List (Key × V)} {ds : List PyData} (h : F d = some (.frz o (.dK kvs))) (r : RpAll K F (kvs.map (·.2)) ds) : Wk K F (Iti d o kvs) (itemsOf (.dict (((kvs.map (·.1)).map kD).zip ds))) where
  go := fun i H e hi => ⟨e _ _ h, by simp [itemsOf] at hi; omega⟩
  stop := fun H e => ⟨e _ _ h, by have := r.length; simp [itemsOf] at this ⊢; omega⟩
  yld := fun n i F1 H1 σ S own x H2 e st hi y => by
    obtain ⟨T, k, v, hkv, rfl, hT, rfl⟩ := y
    obtain ⟨s3, e3, e4⟩ := st.lay (o := .tup [kV k, v]) hT
    have hv : (kvs.map (·.2))[i]? = some v := by rw [List.getElem?_map, hkv]; rfl
    obtain ⟨dv, h1, h2⟩ := r.get' hv
    have hk : ((kvs.map (·.1)).map kD)[i]? = some (kD k) := by rw [List.getElem?_map, List.getElem?_map, hkv]; rfl
    refine ⟨_, e3, s3, e4, .tuple [kD k, dv], ?_, .tup upd_same (.cons (Rp.kv k) (.cons (h2.mono (e.trans e3)) .nil))⟩
    show (List.map (fun p : PyData × PyData => PyData.tuple [p.1, p.2]) _)[i]? = _
    rw [List.getElem?_map, zip_get hk h1]
    rfl
/-- an own dict is locked and frozen -/
theorem St.lockT {i : Nat} {ks : List (List Key)} {xs : List OV} (s : St K n F H σ S own) (h : S[i]? = some (.v (.ot ks xs))) : ∃ d kvs, σ[i]? = some (some (.ref d)) ∧ H d = some (.dT kvs) ∧
    ∀ od, ∃ F' own', Same F F' ∧ St K n F' (L2.upd H d (.frz od (.dT kvs))) σ (S.set i (.v (.fz (OV.ot ks xs).erase))) own' ∧ F' d = some (.frz od (.dT kvs)) ∧ RpAll K F' (kvs.map (·.2)) (OV.eraseL xs) ∧ kvs.map (·.1) = ks := by
  obtain ⟨v, h1, s1, t⟩ := s.taken h
  have hi : i < σ.length := (List.getElem?_eq_some_iff.mp h1).1
  have hro := t.ro
  have hout := t.out
  have hnod := t.nod
  generalize own i = as at hro hout hnod
  cases hro with
  | @ot d bs kvs _ _ g1 g2 g3 =>
    refine ⟨d, kvs, h1, g1, fun od => ?_⟩
    obtain ⟨z1, z2, z3⟩ := hout d List.mem_cons_self
    have s2 := s1.upd (o := .frz od (.dT kvs)) z1 z2 z3
    obtain ⟨s3, e3⟩ := s2.freezeAt (as := d :: bs) hout
    have hd : d ∉ bs := (List.nodup_cons.mp hnod).1
    have hFd : adds F (L2.upd H d (.frz od (.dT kvs))) (d :: bs) d = some (.frz od (.dT kvs)) := by rw [adds_in List.mem_cons_self]; exact upd_same
    have hr : RpAll K (adds F (L2.upd H d (.frz od (.dT kvs))) (d :: bs)) (kvs.map (·.2)) (OV.eraseL xs) := g3.all e3 fun a ha => by
      rw [adds_in (List.mem_cons_of_mem _ ha)]
      exact upd_ne fun z => hd (z ▸ ha)
    have hl := hr.length
    have hrp : Rp K (adds F (L2.upd H d (.frz od (.dT kvs))) (d :: bs)) (.ref d) (OV.ot ks xs).erase := by
      subst g2
      simp only [OV.erase]
      refine .dcT (.inr ⟨od, hFd⟩) ?_ ?_
      · rw [List.map_fst_zip (by simpa using Nat.le_of_eq (by simpa using hl)), List.map_map]; rfl
      · rw [List.map_snd_zip (by simpa using Nat.le_of_eq (by simpa using hl.symm))]; exact hr
    have s4 := s3.put (i := i) (Tmp.fz hrp) hi (fun o q => by
      have hiS : i < S.length := by rw [s.len]; exact hi
      rw [List.getElem?_set_self hiS] at q; cases q)
    have hσ : σ.set i (some (.ref d)) = σ := by
      apply List.ext_getElem?
      intro j
      by_cases z : j = i
      · subst z; rw [List.getElem?_set_self hi, h1]
      · rw [List.getElem?_set_ne (Ne.symm z)]
    rw [hσ, List.set_set] at s4
    exact ⟨_, _, e3, s4, hFd, hr, g2⟩
theorem St.lockK {i : Nat} {ks : List Key} {xs : List OV} (s : St K n F H σ S own) (h : S[i]? = some (.v (.ok ks xs))) : ∃ d kvs, σ[i]? = some (some (.ref d)) ∧ H d = some (.dK kvs) ∧
    ∀ od, ∃ F' own', Same F F' ∧ St K n F' (L2.upd H d (.frz od (.dK kvs))) σ (S.set i (.v (.fz (OV.ok ks xs).erase))) own' ∧ F' d = some (.frz od (.dK kvs)) ∧ RpAll K F' (kvs.map (·.2)) (OV.eraseL xs) ∧ kvs.map (·.1) = ks := by
  obtain ⟨v, h1, s1, t⟩ := s.taken h
  have hi : i < σ.length := (List.getElem?_eq_some_iff.mp h1).1
  have hro := t.ro
  have hout := t.out
  have hnod := t.nod
  generalize own i = as at hro hout hnod
  cases hro with
  | @ok d bs kvs _ _ g1 g2 g3 =>
    refine ⟨d, kvs, h1, g1, fun od => ?_⟩
    obtain ⟨z1, z2, z3⟩ := hout d List.mem_cons_self
    have s2 := s1.upd (o := .frz od (.dK kvs)) z1 z2 z3
    obtain ⟨s3, e3⟩ := s2.freezeAt (as := d :: bs) hout
    have hd : d ∉ bs := (List.nodup_cons.mp hnod).1
    have hFd : adds F (L2.upd H d (.frz od (.dK kvs))) (d :: bs) d = some (.frz od (.dK kvs)) := by rw [adds_in List.mem_cons_self]; exact upd_same
    have hr : RpAll K (adds F (L2.upd H d (.frz od (.dK kvs))) (d :: bs)) (kvs.map (·.2)) (OV.eraseL xs) := g3.all e3 fun a ha => by
      rw [adds_in (List.mem_cons_of_mem _ ha)]
      exact upd_ne fun z => hd (z ▸ ha)
    have hl := hr.length
    have hrp : Rp K (adds F (L2.upd H d (.frz od (.dK kvs))) (d :: bs)) (.ref d) (OV.ok ks xs).erase := by
      subst g2
      simp only [OV.erase]
      refine .dcK (.inr ⟨od, hFd⟩) ?_ ?_
      · rw [List.map_fst_zip (by simpa using Nat.le_of_eq (by simpa using hl)), List.map_map]; rfl
      · rw [List.map_snd_zip (by simpa using Nat.le_of_eq (by simpa using hl.symm))]; exact hr
    have s4 := s3.put (i := i) (Tmp.fz hrp) hi (fun o q => by
      have hiS : i < S.length := by rw [s.len]; exact hi
      rw [List.getElem?_set_self hiS] at q; cases q)
    have hσ : σ.set i (some (.ref d)) = σ := by
      apply List.ext_getElem?
      intro j
      by_cases z : j = i
      · subst z; rw [List.getElem?_set_self hi, h1]
      · rw [List.getElem?_set_ne (Ne.symm z)]
    rw [hσ, List.set_set] at s4
    exact ⟨_, _, e3, s4, hFd, hr, g2⟩
end
section
variable {X : Cx} {x : Str} {pos pos2 apos cpos tpos : Pos} {elts : List Expr} {kk : Nat}
def iItM (i : Nat) : EI := fun S => match S[i]? with
  | some (.v (.ot ks xs)) => some (itemsOf (OV.ot ks xs).erase, S.set i (.v (.fz (OV.ot ks xs).erase)))
  | some (.v (.ok ks xs)) => some (itemsOf (OV.ok ks xs).erase, S.set i (.v (.fz (OV.ok ks xs).erase)))
  | _ => none
theorem i_items (i : Nat) (h : PE X (.Name x pos2) (tVar i)) (hbase : attributeBase (.Name x pos2) "items" X.env (eval (.Name x pos2) X.env) = eval (.Name x pos2) X.env := by rfl) (hline : (apos.endLine == cpos.line) = true := by rfl) :
    DI X (.Tuple elts kk tpos) (.Call (.Attribute (.Name x pos2) "items" apos) [] [] cpos) (iItM i) := ⟨⟨fun pins s σ H R I q => by
    obtain ⟨n, F, S, own, ds, S', st, hf, q⟩ := q
    unfold iItM at hf
    split at hf
    · rename_i ks xs h1
      cases hf
      obtain ⟨d, kvs, hv, hd, lk⟩ := st.lockT h1
      refine wpAny_Call_method (T := "dict") (id := "dict.items") hbase rfl hline PySem.F.plainAttrs_dict PySem.F.slot_dict_items PySem.F.type_dict_items (thn (h.run pins s σ H (fun v H' => v = .ref d ∧ H' = H) I ⟨.ref d, hv, rfl, rfl⟩) fun u s1 ⟨y, H1, I1, rx, e1, e2⟩ => ?_)
      subst e1 e2
      obtain rfl : u = Value.ref d := rx
      obtain ⟨od, I1⟩ := I1.lock hd trivial
      obtain ⟨F', own', e3, st', hF, hr, hk⟩ := lk od
      obtain ⟨hs, hgd, hx, es, ep, hdt, hsz, ent⟩ := frzTv I1 (show L2.upd H1 d (.frz od (.dT kvs)) d = _ from upd_same)
      have raw : s1.heap.DictRaw d es ep := ⟨od, hgd, hx, hdt⟩
      have hne : d ≠ s1.heap.objs.size := Nat.ne_of_lt (Heap.lt_size hgd)
      refine ⟨raw.typeIs, fun b e => by cases e; exact ⟨od, hgd, hx.2.1⟩, ?_⟩
      have I2 : L2.Inv X pins σ (L2.upd H1 d (.frz od (.dT kvs))) { s1 with heap := s1.heap.push { cls := .type "dict_items", data := .fields #[.ref d] } } := I1.kept (t' := s1.toks) fun b ob q => Heap.get?_push_of_some _ q
      subst hk
      have fin : wpAny (model X.prog X.w) X.A (pyIter (.ref s1.heap.objs.size)) (PIE X pins σ (.Tuple elts kk tpos) R) X.xe { s1 with heap := s1.heap.push { cls := .type "dict_items", data := .fields #[.ref d] } } := by
        refine wpAny_pyIter_items_raw (d := d) (es := es) (ep := ep) ⟨_, Heap.get?_push_size _ rfl, rfl, rfl⟩ (raw.at fun o e => Heap.get?_push_of_some _ e) (pi_one (tk := s1.toks) I2 _ (turn_itemsT hdt hsz) ⟨.none, .none, ?_⟩ (q F' _ own' _ e3 st' (wk_itemsT hF hr)))
        rw [← hsz]
        exact Heap.get?_push_size _ rfl
      show wpAny _ _ (callWith cpos (.builtin "dict.items") [.ref d] [] []) _ X.xe s1
      exact method_meetsIn PySem.F.slot_dict_items PySem.F.entry_dict_items rfl (PySem.evalArgs_none ⟨rfl, raw.typeIs, PySem.F.args_dict_items_1 _, _, meets_dict_items_raw d hs, ⟨es, ep, raw⟩, fin⟩)
    · rename_i ks xs h1
      cases hf
      obtain ⟨d, kvs, hv, hd, lk⟩ := st.lockK h1
      refine wpAny_Call_method (T := "dict") (id := "dict.items") hbase rfl hline PySem.F.plainAttrs_dict PySem.F.slot_dict_items PySem.F.type_dict_items (thn (h.run pins s σ H (fun v H' => v = .ref d ∧ H' = H) I ⟨.ref d, hv, rfl, rfl⟩) fun u s1 ⟨y, H1, I1, rx, e1, e2⟩ => ?_)
      subst e1 e2
      obtain rfl : u = Value.ref d := rx
      obtain ⟨od, I1⟩ := I1.lock hd trivial
      obtain ⟨F', own', e3, st', hF, hr, hk⟩ := lk od
      obtain ⟨hs, hgd, hx, es, ep, vs, hdt, hsz, kv, hm⟩ := I1.frzK (show L2.upd H1 d (.frz od (.dK kvs)) d = _ from upd_same)
      have raw : s1.heap.DictRaw d es ep := ⟨od, hgd, hx, hdt⟩
      refine ⟨raw.typeIs, fun b e => by cases e; exact ⟨od, hgd, hx.2.1⟩, ?_⟩
      have I2 : L2.Inv X pins σ (L2.upd H1 d (.frz od (.dK kvs))) { s1 with heap := s1.heap.push { cls := .type "dict_items", data := .fields #[.ref d] } } := I1.kept (t' := s1.toks) fun b ob q => Heap.get?_push_of_some _ q
      subst hk
      have fin : wpAny (model X.prog X.w) X.A (pyIter (.ref s1.heap.objs.size)) (PIE X pins σ (.Tuple elts kk tpos) R) X.xe { s1 with heap := s1.heap.push { cls := .type "dict_items", data := .fields #[.ref d] } } := by
        refine wpAny_pyIter_items_raw (d := d) (es := es) (ep := ep) ⟨_, Heap.get?_push_size _ rfl, rfl, rfl⟩ (raw.at fun o e => Heap.get?_push_of_some _ e) (pi_one (tk := s1.toks) I2 _ (turn_items _ hdt) ⟨.none, .none, ?_⟩ (q F' _ own' _ e3 st' (wk_itemsK hF hr)))
        rw [← hsz]
        exact Heap.get?_push_size _ rfl
      show wpAny _ _ (callWith cpos (.builtin "dict.items") [.ref d] [] []) _ X.xe s1
      exact method_meetsIn PySem.F.slot_dict_items PySem.F.entry_dict_items rfl (PySem.evalArgs_none ⟨rfl, raw.typeIs, PySem.F.args_dict_items_1 _, _, meets_dict_items_raw d hs, ⟨es, ep, raw⟩, fin⟩)
    · cases hf⟩⟩

/-! ### *e in a display -/
def aStar (fa : EV) (fb : EA) : EA := fun S => match fa S with
  | some (x, S1) => (match seqX x with
    | some ds => (match fb S1 with
      | some (xs, S2) => some (ds.map OV.fz ++ xs, S2)
      | none => none)
    | none => none)
  | none => none
theorem ROx.fzs {K : Frg} {F H : Hp} : ∀ {vs : List V} {ds : List PyData}, RpAll K F vs ds → ROx K F H vs (ds.map OV.fz)
  | _, _, .nil => .nil
  | _, _, .cons h r => .cons (.fz h) (ROx.fzs r)
theorem ROx.append {K : Frg} {F H : Hp} : ∀ {vs ws : List V} {xs ys : List OV}, ROx K F H vs xs → ROx K F H ws ys → ROx K F H (vs ++ ws) (xs ++ ys)
  | _, _, _, _, .nil, r => r
  | _, _, _, _, .cons h t, r => .cons h (ROx.append t r)
theorem a_star {p : Pos} {pa pb : Bool} {e : Expr} {es : List Expr} {fa : EV} {ga : EA} (ha : DX X pa e fa) (hb : DA X pb es ga) (hs : starEach (.Starred e p :: es) X.env = (true, eval e X.env) :: starEach es X.env := by rfl) : DA X (pa && pb) (.Starred e p :: es) (aStar fa ga) :=
  ⟨(StX.pa_star ha.pe hb.pa hs).imp fun σ H Q ⟨n, F, S, own, os, S', st, hf, q⟩ => by
    unfold aStar at hf
    split at hf
    · rename_i x S1 h1
      split at hf
      · rename_i ds h2
        split at hf
        · rename_i xs S2 h3
          cases hf
          refine ⟨n, F, S, own, x, S1, st, h1, fun F1 H1 own1 v as e1 st1 r1 pu1 => ?_⟩
          obtain ⟨a, vs, rfl, hs', rr⟩ := r1.seqX st1.fh h2
          refine ⟨a, vs, rfl, hs'.symm, n, F1, S1, own1, xs, S', st1, h3, fun F2 H2 own2 ws e2 st2 r2 pu2 => ?_⟩
          exact q F2 H2 own2 (vs ++ ws) (e1.trans e2) st2 ((ROx.fzs (rr.mono e2)).append r2) (pu1.trans pu2)
        · cases hf
      · cases hf
    · cases hf⟩
end
end PD
set_option Elab.async false
set_option linter.all false
set_option maxRecDepth 100000
set_option maxHeartbeats 4000000
namespace PD
open PySem PySem.Spec PyProof.Rows L2

/-! ### a call with own things lent, its answer a fresh thing whose leaves are without a list -/
mutual
def stillO : OV → Bool
  | .fz d => still d
  | .ol xs => stillOs xs
  | .ok _ xs => stillOs xs
  | .ot _ xs => stillOs xs
def stillOs : List OV → Bool
  | [] => true
  | x :: xs => stillO x && stillOs xs
end
section
variable {K : Frg} {F F' H H' : Hp}
mutual
theorem RO.leaves (e : Same F' H) (h0 : Same F H) : ∀ {as : List Addr} {v : V} {o : OV}, RO K F' H as v o → stillO o = true → RO K (tupsOf F H) H as v o
  | _, _, _, .fz r, s => .fz ((r.mono e).still h0 (by simpa [stillO] using s))
  | _, _, _, .ol q r, s => .ol q (ROs.leaves e h0 r (by simpa [stillO] using s))
  | _, _, _, .ok q k r, s => .ok q k (ROs.leaves e h0 r (by simpa [stillO] using s))
  | _, _, _, .ot q k r, s => .ot q k (ROs.leaves e h0 r (by simpa [stillO] using s))
theorem ROs.leaves (e : Same F' H) (h0 : Same F H) : ∀ {as : List Addr} {vs : List V} {xs : List OV}, ROs K F' H as vs xs → stillOs xs = true → ROs K (tupsOf F H) H as vs xs
  | _, _, _, .nil, _ => .nil
  | _, _, _, .cons h r, s => by
    simp only [stillOs, Bool.and_eq_true] at s
    exact .cons (RO.leaves e h0 h s.1) (ROs.leaves e h0 r s.2)
end
end
section
variable {X : Cx} {e e2 a b c : Expr} {es : List Expr} {p pa pb pc : Bool} {f fa fb fc : EV} {ga : EA} {pos pos2 apos cpos : Pos} {K : Frg} {x : Str}
def gCallN (m : Mir) : List OV → Option OV := fun os => match m ((OV.eraseL os).map OV.fz) with
  | some (r, _) => if stillO r then some r else none
  | none => none
theorem callx_N {m : Mir} {E : XK} : CallX K (fun vs H Q => spF K m (vs ++ []) H Q E) (gCallN m) := by
  intro n F H σ S own xs os o Q st r hg he
  unfold gCallN at hg
  split at hg
  · rename_i r1 avs' h2
    split at hg
    · rename_i hs
      cases hg
      have rr := r.rpH st.fh
      rw [List.append_nil]
      refine ⟨⟨H, H, fun i => xs.getD i .non⟩, H, _, fun _ => [], o, avs', St.frozenArgs (Same.refl H) rr, fun i v q => by simp [q], h2, fun F' H' own' v as e st' t => ?_⟩
      have fh : Same F H' := fun a o q => st'.rh a o (st.fh a o q)
      refine he _ H' v as tupsOf_F st'.rh (st.grow tupsOf_F (tupsOf_H fh) st'.rh fun a o q => ?_) ⟨t.ro.leaves st'.fh fh hs, t.nod, fun a ha => ?_⟩
      · rcases tupsOf_new q with z | ⟨_, _, z⟩
        · exact .inl z
        · exact .inr (.inl z)
      · have hH : H a = none := (t.out a ha).2.1
        obtain ⟨u, hu, hu2⟩ := t.ro.dom a ha
        refine ⟨?_, ?_, fun i h => ?_⟩
        · cases q : tupsOf F H' a with
          | none => rfl
          | some w =>
            exfalso
            rcases tupsOf_new q with z | ⟨_, z1, z2⟩
            · rw [st.fh a w z] at hH; cases hH
            · rw [hu] at z1
              cases z1
              cases u <;> first | (simp [isOwnO] at hu2; done) | (simp [isTupO] at z2; done)
        · cases w : n.R a with
          | none => rfl
          | some u => rw [st.rh a u w] at hH; cases hH
        · obtain ⟨o', w, _⟩ := st.dom h
          rw [hH] at w; cases w
    · cases hg
  · cases hg
theorem d_callN {k j : Nat} {x : Str} {m : Mir} {p' : Pos} (G : Fd X.prog X.w X.K X.mg X.base k x m) (hgd : X.A.guards = some []) (hr : Room j X.A) (ha : DA X pa (e :: es) ga) (hk : k ≤ j := by decide) (hg : Gl X x := by rfl)
    (hdb : (x == ("__debug__" : Str)) = false := by decide) (he : starEach (e :: es) X.env = (false, eval e X.env) :: starEach es X.env := by rfl) (hpl : (backTo pos (starEach es X.env)).any (·.1) = false := by rfl) : DO X pa (.Call (.Name x p') (e :: es) [] pos) (eCall (gCallN m) ga) :=
  ⟨pe_fd G hgd hr hk hg ha.pa (call_imp callx_N) hdb he hpl⟩
/-! ### d[k], whatever stands there (shared) -/
def eDGetX (pb : Bool) (fa fb : EV) : EV := fun S => match fa S with
  | some (o, S1) => if pb || o.isFz then (match fb S1 with
    | some (.fz d, S2) => (match dgO o d with
      | some (some x) => some (x, S2)
      | _ => none)
    | _ => none) else none
  | none => none
theorem d_dgetX {k : Nat} (hr : Room k X.A) (ha : DX X pa a fa) (hb : DX X pb b fb) (hs : NoSl b := by exact fun _ _ => rfl) : DX X (pa && pb) (.Subscript a b pos) (eDGetX pb fa fb) :=
  ⟨(pe_dget (room1 hr) ha.pe hb.pe hs).imp fun σ H Q ⟨n, F, S, own, o, S', st, hf, q⟩ => by
    unfold eDGetX at hf
    split at hf
    · rename_i o1 S1 h1
      split at hf
      · rename_i hfz
        split at hf
        · rename_i d S2 h2
          split at hf
          · rename_i y h3
            cases hf
            refine ⟨n, F, S, own, _, S1, st, h1, fun F1 H1 own1 v1 as1 e1 st1 r1 pu1 => ?_⟩
            refine ⟨n, F1, S1, own1, _, S', st1, h2, fun F2 H2 own2 v2 as2 e2 st2 r2 pu2 => ?_⟩
            have r1' := r1.persist (n := n) (σ := σ) e2 hfz pu2
            obtain ⟨a', u, ea, g, _, hw⟩ := dg_get r1' r2.rp st2.fh h3
            cases hw with
            | yes hw => exact ⟨a', _, ea, g, q F2 H2 own2 _ _ (e1.trans e2) st2 hw (pu1.trans pu2)⟩
          · cases hf
        · cases hf
      · cases hf
    · cases hf⟩
/-! ### a name whose own thing is handed on -/
def eTake (i : Nat) : EV := fun S => match S[i]? with
  | some (.v o) => some (o, S.set i .un)
  | _ => none
theorem d_take (i : Nat) {x : Str} {pos : Pos} (h : PE X (.Name x pos) (tVar i)) : DO X false (.Name x pos) (eTake i) := ⟨h.imp fun σ H Q ⟨n, F, S, own, o, S', st, hf, q⟩ => by
  unfold eTake at hf
  split at hf
  · rename_i o1 he
    cases hf
    obtain ⟨v, h1, s2, t⟩ := st.taken he
    exact ⟨v, h1, q F H _ v _ (Same.refl F) s2 t (fun z => nomatch z)⟩
  · cases hf⟩
/-! ### return d[k], d an own dict that isn't used any more -/
theorem look_own {κ : Type} [DecidableEq κ] {F H : Hp} (k : κ) : ∀ {kvs : List (κ × V)} {as : List Addr} {xs : List OV} {x : OV}, ROs K F H as (kvs.map (·.2)) xs → lookO k (kvs.map (·.1)) xs = some x → ∃ v c, valV kvs k = some v ∧ RO K F H c v x ∧ c.Sublist as
  | [], _, _, _, h, e => by cases h; simp [lookO] at e
  | p :: kvs, _, _, _, h, e => by
    rw [List.map_cons] at h
    cases h with
    | cons h r =>
      rename_i as' bs' y xs
      rw [List.map_cons] at e
      simp only [lookO] at e
      by_cases ek : p.1 = k
      · rw [if_pos ek] at e
        cases e
        exact ⟨_, as', valV_pos ek, h, List.sublist_append_left as' bs'⟩
      · rw [if_neg ek] at e
        obtain ⟨v, c, h1, h2, h3⟩ := look_own k r e
        exact ⟨v, c, by rw [valV_neg ek]; exact h1, h2, h3.trans (List.sublist_append_right as' bs')⟩
def hasV (i : Nat) (S : SS) : Bool := match S[i]? with
  | some (.v _) => true
  | _ => false
def gRetD (i : Nat) (fk : EV) : SM := fun S => if hasV i S then (match fk S with
  | some (.fz d, S1) => (match S1[i]? with
    | some (.v (.ot ks xs)) => (match tkOf d with
      | some k => (match lookO k ks xs with
        | some y => some (.rt y, S1.set i .un)
        | none => none)
      | none => none)
    | some (.v (.ok ks xs)) => (match keyOf d with
      | some k => (match lookO k ks xs with
        | some y => some (.rt y, S1.set i .un)
        | none => none)
      | none => none)
    | _ => none)
  | _ => none) else none
theorem s_retD (i : Nat) {k : Nat} (hr : Room k X.A) (h : PE X (.Name x pos2) (tVar i)) (hb : DX X true b fb) (hs : NoSl b := by exact fun _ _ => rfl) : DS X (.Return (some (.Subscript (.Name x pos2) b pos)) cpos) (gRetD i fb) :=
  ⟨(ps_ret (pe_dget (room1 hr) h hb.pe hs)).imp fun D σ H ⟨n, F, S, own, fl, S', st, hg, q⟩ => by
    unfold gRetD at hg
    split at hg
    · rename_i hV
      obtain ⟨v0, hv0⟩ : ∃ v, σ[i]? = some (some v) := by
        unfold hasV at hV
        split at hV
        · rename_i o ho
          obtain ⟨v, h1, _⟩ := st.slot i o ho
          exact ⟨v, h1⟩
        · cases hV
      split at hg
      · rename_i d S1 h1
        split at hg
        · rename_i ks xs h2
          split at hg
          · rename_i k hk
            split at hg
            · rename_i y hy
              cases hg
              refine ⟨v0, hv0, n, F, S, own, _, S1, st, h1, fun F1 H1 own1 w as e1 st1 r1 pu1 => ?_⟩
              obtain ⟨v, g1, s2, t⟩ := st1.taken h2
              rw [hv0] at g1
              cases g1
              have hro := t.ro
              have hout := t.out
              have hnod := t.nod
              generalize own1 i = os at hro hout hnod
              have hk' := r1.rp
              rw [tkOf_ok hk] at hk'
              obtain ⟨b, rfl, hb⟩ := hk'.kt
              cases hro with
              | @ot a bs kvs _ _ q1 q2 q3 =>
                subst q2
                obtain ⟨u, c, z1, z2, z3⟩ := look_own k q3 hy
                obtain ⟨_, hn2⟩ := List.nodup_cons.mp hnod
                exact ⟨a, u, rfl, .inr ⟨kvs, k, b, .inl q1, rfl, st1.fh _ _ hb, z1.symm⟩, q F1 H1 σ _ u c e1 s2 ⟨z2, z3.nodup hn2, fun z hz => hout z (List.mem_cons_of_mem _ (z3.subset hz))⟩⟩
            · cases hg
          · cases hg
        · rename_i ks xs h2
          split at hg
          · rename_i k hk
            split at hg
            · rename_i y hy
              cases hg
              refine ⟨v0, hv0, n, F, S, own, _, S1, st, h1, fun F1 H1 own1 w as e1 st1 r1 pu1 => ?_⟩
              obtain ⟨v, g1, s2, t⟩ := st1.taken h2
              rw [hv0] at g1
              cases g1
              have hro := t.ro
              have hout := t.out
              have hnod := t.nod
              generalize own1 i = os at hro hout hnod
              have hk' := r1.rp
              rw [keyOf_ok hk] at hk'
              have hw := hk'.kd
              subst hw
              cases hro with
              | @ok a bs kvs _ _ q1 q2 q3 =>
                subst q2
                obtain ⟨u, c, z1, z2, z3⟩ := look_own k q3 hy
                obtain ⟨_, hn2⟩ := List.nodup_cons.mp hnod
                exact ⟨a, u, rfl, .inl ⟨kvs, k, .inl q1, rfl, z1.symm⟩, q F1 H1 σ _ u c e1 s2 ⟨z2, z3.nodup hn2, fun z hz => hout z (List.mem_cons_of_mem _ (z3.subset hz))⟩⟩
            · cases hg
          · cases hg
        · cases hg
      · cases hg
    · cases hg⟩
end
end PD
set_option Elab.async false
set_option linter.all false
set_option maxRecDepth 100000
set_option maxHeartbeats 4000000
namespace PD
open PySem PySem.Spec PyProof.Rows L2

theorem law_callG {P : Program} {w : World} {K : Frg} {mg mb : Str → Option Value} {k : Nat} {fa a : Addr} {fd : FuncData} {x : Str} {sp : Sp} {s₁ : Shared} {vs : List Value} {ns : List Int}
    (KX : K.In s₁.heap) (hns : s₁.heap.Ns mainGlobals mg) (hb : s₁.heap.Ns builtinsNs mb) (hbb : ∀ x : Str, x ≠ "__name__" → mb x = bootBuiltins x) (hlim : s₁.heap.NoLimit) (hg : s₁.gens = #[])
    (ha : s₁.heap.get? a = some { cls := .type "list", data := .seq vs.toArray }) (hi : IntsAre vs ns) (hl : ns.length ≤ sizeLine) (hr : Room k callerA)
    (F : ∀ base : Heap, K.In base → base.Ns mainGlobals mg → FnG P w K mg base k fa fd [x] sp) (hbind : ∀ (s : Shared) (u : Value), BindsTo s fd ⟨[u], []⟩ [(x, u)])
    (hsp : ∀ H : Hp, Only H → SqL K H a (ns.map V.int) → sp [.ref a] H (fun v _ => v = .bl true) fun _ _ _ => False) :
    codeAny (model P w) callerA (.call (.ref fa) ⟨[.ref a], []⟩) (fun r s' => r = .ok (.ret (.bool true)) ∧ OldK s₁.heap s'.heap ∧ s'.os = s₁.os ∧ AllBare s'.gens) s₁ := by
  have rv := vals_ints hi
  have lenV := hi.length
  have core : ∀ H : Hp, Only H → SqL K H a (ns.map V.int) → HOk P w H s₁.heap → (∀ b, H b ≠ none → b = a) → (H a ≠ none → K.lookup a = none) →
      codeAny (model P w) callerA (.call (.ref fa) ⟨[.ref a], []⟩) (fun r s' => r = .ok (.ret (.bool true)) ∧ OldK s₁.heap s'.heap ∧ s'.os = s₁.os ∧ AllBare s'.gens) s₁ := by
    intro H hO hS hok hA hK
    have base_of : ∀ {b : Addr} {o : Obj}, s₁.heap.get? b = some o → H b = none → (hidT s₁.heap H).get? b = some o := fun e n => hidT_get e n
    have noA : ∀ {b : Addr} {o : Obj} {es : Array DictEntry} {ep : Nat}, s₁.heap.get? b = some o → o.data = .dict es ep → H b = none := fun {b o es ep} e d => by
      cases q : H b with
      | none => rfl
      | some u =>
        have e' : b = a := hA b (by rw [q]; simp)
        subst e'
        rw [ha] at e; cases e
        have d' : Data.seq vs.toArray _ = Data.dict es ep := d
        cases d'
    have nsK : ∀ {b : Addr} {m : Str → Option Value}, s₁.heap.Ns b m → (hidT s₁.heap H).Ns b m := fun {b m} ⟨o, es, ep, e, d, r⟩ => ⟨o, es, ep, base_of e (noA e d), d, r⟩
    have hKb : K.In (hidT s₁.heap H) := fun b o e => base_of (KX b o e) (by
      cases q : H b with
      | none => rfl
      | some u =>
        have e' : b = a := hA b (by rw [q]; simp)
        subst e'
        rw [hK (by rw [q]; simp)] at e; cases e)
    have hM : Mod K mg (hidT s₁.heap H) := ⟨hKb, nsK hns, ⟨mb, nsK hb, hbb⟩, let ⟨mc, h1, h2⟩ := hlim; ⟨mc, nsK h1, h2⟩⟩
    have e0 : Env0 P w K mg (hidT s₁.heap H) callerA [] s₁ H := ⟨rfl, hM, fun b o e => of_hidT e, Nat.le_of_eq (hidT_size _ _), trivial, fun b hb => absurd (show b ∈ ([] : List Addr) from hb) (by simp), hok, .of_eq hg⟩
    refine codeAny_mono ((F _ hKb (nsK hns)).run callerA [] s₁ H ⟨[.ref a], []⟩ [.ref a] [.ref a] _ _ rfl hr e0 (hbind s₁ (.ref a)) (.cons rfl .nil) (hsp H hO hS)) fun r s' h => ?_
    cases r with
    | error e => exact (show False from h).elim
    | ok fl =>
      cases fl with
      | next => exact False.elim h
      | brk => exact False.elim h
      | cont => exact False.elim h
      | ret u =>
        obtain ⟨v, H', os, bare, un, hok', r', q⟩ := h
        have q' : v = .bl true := q
        subst q'
        obtain rfl : u = Value.bool true := r'
        refine ⟨rfl, OldK.of_keep fun b o e => ?_, os, bare⟩
        cases q : H b with
        | none => exact un.keep b o e q (by intro z; exact absurd (show b ∈ ([] : List Addr) from z) (by simp)) (by simp)
        | some u =>
          rcases hO b with z | ⟨ob, xs, z⟩
          · rw [q] at z; cases z
          · have z2 := un.frzs b ob _ z
            obtain ⟨e1, _⟩ := hok b _ z
            obtain ⟨e2, _⟩ := hok' b _ z2
            rw [e] at e1; cases e1
            exact e2
  cases hk : K.lookup a with
  | some o =>
    have e := KX a o hk
    rw [ha] at e
    cases e
    refine core (fun _ => none) (fun _ => .inl rfl) (.inr ⟨_, vs.toArray, _, hk, rfl, rfl, rfl, by rw [List.size_toArray, lenV]; exact hl, by simpa using rv⟩) (fun b u z => by have z' : (none : Option HO) = some u := z; cases z') (fun b z => absurd rfl z) fun z => absurd rfl z
  | none =>
    refine core (fun b => if b = a then some (.frz { cls := .type "list", data := .seq vs.toArray } (.lst (ns.map V.int))) else none) (fun b => ?_) (.inl (.inr ⟨{ cls := .type "list", data := .seq vs.toArray }, if_pos rfl⟩)) (fun b u z => ?_) (fun b z => ?_) fun _ => hk
    · by_cases hb : b = a
      · exact .inr ⟨_, _, if_pos hb⟩
      · exact .inl (if_neg hb)
    · by_cases hb : b = a
      · have z' := (if_pos hb).symm.trans z
        cases z'
        subst hb
        exact ⟨ha, by rw [List.length_map]; exact hl, vs, _, rv, ha⟩
      · have z' := (if_neg hb).symm.trans z
        cases z'
    · by_cases hb : b = a
      · exact hb
      · exact absurd (if_neg hb) z
theorem walk_ofG {l : PySem.W.OpenLaw} {n k : Nat} {q : Program} {loose : List Str} {XP : (Str → Option Value) → Heap → Prop} {YP : World → Heap → Prop} {d : DefRec} {K : Params → Frg} {sp : World → Sp} {x : Str}
    (hn : l.most = some n) (hn2 : n ≤ sizeLine) (hdf : d.params.defaults = []) (hr : Room k callerA)
    (hY : ∀ (w : World) (h : Heap), YP w h → (K w.params).In h)
    (F : ∀ (w : World) (mg : Str → Option Value) (fa : Addr) (h : Heap), (K w.params).In h → h.Ns mainGlobals mg → mg d.name = some (.ref fa) →
      ∃ fd : FuncData, (∀ (s : Shared) (u : Value), BindsTo s fd ⟨[u], []⟩ [(x, u)]) ∧
        ∀ base : Heap, (K w.params).In base → base.Ns mainGlobals mg → FnG l.prog w (K w.params) mg base k fa fd [x] (sp w))
    (hsp : ∀ (w : World) (H : Hp) (a : Addr) (ns : List Int), ns.length ≤ n → (∀ z ∈ ns, Builtin.Int.intBits z ≤ 1048576) → Only H → SqL (K w.params) H a (ns.map V.int) → sp w [.ref a] H (fun v _ => v = .bl true) fun _ _ _ => False) :
    PySem.W.WalkO q loose XP YP l.row.toRowW d [] (fun f vs => PySem.call f vs) := by
  refine Att.attach_callB hn hdf fun w s₀ s₁ mg mb fa o pm cd doc a vs ns G Y ho hd hcd hmg hobj hints hlen hbits hg => ?_
  have KX := hY w _ Y
  obtain ⟨fd, hb, hF⟩ := F w mg fa _ KX G.T.g hmg
  exact law_callG KX G.T.g G.T.b G.T.builtins G.T.nolimit hg hobj hints (Nat.le_trans hlen hn2) hr hF hb (fun H hO hS => hsp w H a ns hlen hbits hO hS)
/-- the law's promise from its mirror -/
theorem law_sp {K : Frg} {m : Mir} {H : Hp} {a : Addr} {ns : List Int} {avs' : List OV} {E : XK} (hO : Only H) (hS : SqL K H a (ns.map V.int)) (h : m [.fz (scrD (ns.map PyData.int))] = some (.fz (.bool true), avs')) :
    spF K m [.ref a] H (fun v _ => v = .bl true) E := by
  refine ⟨⟨fun _ => none, fun _ => none, fun _ => .ref a⟩, H, [.fz (scrD (ns.map PyData.int))], fun _ => [], .fz (.bool true), avs', ⟨Same.refl H, fun _ _ e => (nomatch e), fun _ _ e => (nomatch e), fun _ _ _ => .inr (.inl rfl), rfl, fun i o e => ?_, fun i o e => ?_, fun _ _ _ => rfl, fun _ => List.nodup_nil, fun _ _ _ _ h => (nomatch h), fun _ _ h => nomatch h⟩, fun i v e => ?_, h, fun F' H' own' v as e st t => ?_⟩
  · cases i with
    | zero => cases e; exact ⟨_, rfl, .fz (.scr hS (RpAll.ints ns))⟩
    | succ i => simp at e
  · cases i with
    | zero => cases e
    | succ i => simp at e
  · cases i with
    | zero => cases e; rfl
    | succ i => simp at e
  · have := t.ro.rp
    cases this
    rfl
end PD
set_option Elab.async false
set_option linter.all false
set_option maxRecDepth 100000
set_option maxHeartbeats 4000000
/-! PDX: the mirrors are run by simp. -/
namespace PD
open PySem L2
@[simp] theorem x_oFz {f : EV} {S : _} : oFz f S = match f S with
  | some (.fz d, S') => some (.fz d, S')
  | _ => none := id rfl
@[simp] theorem x_oFr {f : EV} {S : _} : oFr f S = match f S with
  | some (o, S') => some (.fz o.erase, S')
  | none => none := id rfl
@[simp] theorem x_oSt {f : EV} {S : _} : oSt f S = match f S with
  | some (o, S') => if still o.erase then some (.fz o.erase, S') else none
  | none => none := id rfl
@[simp] theorem x_eVar {i : Nat} {S : _} : eVar i S = match S[i]? with
  | some (.v o) => some (o, S)
  | some (.io o) => some (o, S)
  | _ => none := id rfl
@[simp] theorem x_eMov {i : Nat} {S : _} : eMov i S = match S[i]? with
  | some (.v o) => some (.fz o.erase, S.set i (.v (.fz o.erase)))
  | _ => none := id rfl
@[simp] theorem x_eC {d : PyData} {S : _} : eC d S = some (.fz d, S) := id rfl
@[simp] theorem x_aNil {S : _} : aNil  S = some ([], S) := id rfl
@[simp] theorem x_aCons {pb : Bool} {fa : EV} {fb : EA} {S : _} : aCons pb fa fb S = match fa S with
  | some (x, S1) => if pb || x.isFz then (match fb S1 with
    | some (xs, S2) => some (x :: xs, S2)
    | none => none) else none
  | none => none := id rfl
@[simp] theorem x_eBin {g : OV → OV → Option OV} {pb : Bool} {fa fb : EV} {S : _} : eBin g pb fa fb S = match fa S with
  | some (x, S1) => if pb || x.isFz then (match fb S1 with
    | some (y, S2) => (match g x y with
      | some o => some (o, S2)
      | none => none)
    | none => none) else none
  | none => none := id rfl
@[simp] theorem x_eUn {g : OV → Option OV} {fa : EV} {S : _} : eUn g fa S = match fa S with
  | some (x, S1) => (match g x with
    | some o => some (o, S1)
    | none => none)
  | none => none := id rfl
@[simp] theorem x_eCall {g : List OV → Option OV} {fa : EA} {S : _} : eCall g fa S = match fa S with
  | some (x, S1) => (match g x with
    | some o => some (o, S1)
    | none => none)
  | none => none := id rfl
@[simp] theorem x_gNx {S : _} : gNx  S = some (.nx, S) := id rfl
@[simp] theorem x_gSeq {g1 g2 : SM} {S : _} : gSeq g1 g2 S = match g1 S with
  | some (.nx, S1) => g2 S1
  | r => r := id rfl
@[simp] theorem x_gBk {S : _} : gBk  S = some (.bk, S) := id rfl
@[simp] theorem x_gCt {S : _} : gCt  S = some (.ct, S) := id rfl
@[simp] theorem x_gDrop {f : EV} {S : _} : gDrop f S = match f S with
  | some (_, S') => some (.nx, S')
  | none => none := id rfl
@[simp] theorem x_gRet {f : EV} {S : _} : gRet f S = match f S with
  | some (o, S') => some (.rt o, S')
  | none => none := id rfl
@[simp] theorem x_gRetV {i : Nat} {S : _} : gRetV i S = match S[i]? with
  | some (.v o) => some (.rt o, S.set i .un)
  | _ => none := id rfl
@[simp] theorem x_gRetN {S : _} : gRetN  S = some (.rt (.fz .none), S) := id rfl
@[simp] theorem x_gIf {ft : EB} {g1 g2 : SM} {S : _} : gIf ft g1 g2 S = match ft S with
  | some (true, S1) => g1 S1
  | some (false, S1) => g2 S1
  | none => none := id rfl
@[simp] theorem x_gSet {i : Nat} {f : EV} {S : _} : gSet i f S = match f S with
  | some (o, S1) => (match putS i o S1 with
    | some S2 => some (.nx, S2)
    | none => none)
  | none => none := id rfl
@[simp] theorem x_gMove {i j : Nat} {S : _} : gMove i j S = match S[j]? with
  | some (.v o) => (match putS i o (S.set j .un) with
    | some S2 => some (.nx, S2)
    | none => none)
  | _ => none := id rfl
@[simp] theorem x_tgN {i : Nat} {d S : _} : tgN i d S = putS i (.fz d) S := id rfl
@[simp] theorem x_tgNil {ds S : _} : tgNil  ds S = match ds with
  | [] => some S
  | _ => none := id rfl
@[simp] theorem x_tgCons {g : GV} {gs : GVs} {ds S : _} : tgCons g gs ds S = match ds with
  | d :: ds => (match g d S with
    | some S1 => gs ds S1
    | none => none)
  | [] => none := id rfl
@[simp] theorem x_tgT {k : Nat} {gs : GVs} {d S : _} : tgT k gs d S = match d with
  | .tuple ds => if ds.length = k then gs ds S else none
  | _ => none := id rfl
@[simp] theorem x_gAsg {f : EV} {g : GV} {S : _} : gAsg f g S = match f S with
  | some (.fz d, S1) => (match g d S1 with
    | some S2 => some (.nx, S2)
    | none => none)
  | _ => none := id rfl
@[simp] theorem x_gPar {i j : Nat} {fa fb : EV} {S : _} : gPar i j fa fb S = match fa S with
  | some (x, S1) => (match fb S1 with
    | some (y, S2) => (match putS i x S2 with
      | some S3 => (match putS j y S3 with
        | some S4 => some (.nx, S4)
        | none => none)
      | none => none)
    | none => none)
  | none => none := id rfl
@[simp] theorem x_fnM {na nl : Nat} {body : SM} {avs : _} : fnM na nl body avs = if avs.length = na then (match body (avs.map entry ++ List.replicate (nl - na) .un) with
  | some (.rt o, S) => if ioOk 0 avs S then some (o, outs 0 avs S) else none
  | some (.nx, S) => if ioOk 0 avs S then some (.fz .none, outs 0 avs S) else none
  | _ => none) else none := id rfl
@[simp] theorem x_qNil {S : _} : qNil  S = some ([], S) := id rfl
@[simp] theorem x_qFz {fa : EV} {fb : EQ'} {S : _} : qFz fa fb S = match fa S with
  | some (.fz d, S1) => (match fb S1 with
    | some (qs, S2) => some (some d :: qs, S2)
    | none => none)
  | _ => none := id rfl
@[simp] theorem x_qIo {i : Nat} {fb : EQ'} {S : _} : qIo i fb S = match S[i]? with
  | some .un => none
  | some _ => (match fb S with
    | some (qs, S2) => some (none :: qs, S2)
    | none => none)
  | none => none := id rfl
@[simp] theorem x_eIo {m : Mir} {i : Nat} {fq : EQ'} {S : _} : eIo m i fq S = match fq S with
  | some (qs, S1) => (match ioAt qs, (S1[i]?).bind svOv with
    | some j, some (o, b) => if o.isFz then none else (match m (qs.map fun q => match q with
        | some d => .fz d
        | none => o) with
      | some (r, avs') => (match avs'[j]? with
        | some o' => if o'.isFz then none else some (r, S1.set i (mkSv b o'))
        | none => none)
      | none => none)
    | _, _ => none)
  | none => none := id rfl
@[simp] theorem x_iSeq {f : EV} {S : _} : iSeq f S = match f S with
  | some (o, S1) => (match seqD o with
    | some ds => some (ds, S1)
    | none => none)
  | none => none := id rfl
@[simp] theorem x_iRange1 {f : EV} {S : _} : iRange1 f S = match f S with
  | some (.fz (.int j), S1) => if okR j then some (rangeD 0 j.toNat, S1) else none
  | _ => none := id rfl
@[simp] theorem x_iRange2 {fa fb : EV} {S : _} : iRange2 fa fb S = match fa S with
  | some (.fz (.int i), S1) => (match fb S1 with
    | some (.fz (.int j), S2) => if okR i && okR j then some (rangeD i (j - i).toNat, S2) else none
    | _ => none)
  | _ => none := id rfl
@[simp] theorem x_iEnump {f : EV} {S : _} : iEnum' f S = match f S with
  | some (o, S1) => (match seqD o with
    | some ds => some (enumD ds, S1)
    | none => none)
  | none => none := id rfl
@[simp] theorem x_iZip {pb : Bool} {fa fb : EV} {S : _} : iZip pb fa fb S = match fa S with
  | some (x, S1) => if pb || x.isFz then (match fb S1 with
    | some (y, S2) => (match seqD x, seqD y with
      | some ds, some es => some (zipD ds es, S2)
      | _, _ => none)
    | none => none) else none
  | none => none := id rfl
@[simp] theorem x_gFor {is : List Nat} {fi : EI} {gv : GV} {g : SM} {S : _} : gFor is fi gv g S = match fi S with
  | some (ds, S1) => forL is gv g ds (wipeS is S1)
  | none => none := id rfl
@[simp] theorem x_bYes {S : _} : bYes  S = some (true, S) := id rfl
@[simp] theorem x_eLc {vs : List Nat} {fi : EI} {gv : GV} {ft : EB} {f : EV} {S : _} : eLc vs fi gv ft f S = match fi S with
  | some (ds, S1) => (match lcL vs gv ft f ds [] S1 with
    | some (acc, S2) => some (.ol acc, S2)
    | none => none)
  | none => none := id rfl
@[simp] theorem x_eLc2 {vs vs1 : List Nat} {fi : EI} {gv : GV} {ft : EB} {fj : EI} {gv2 : GV} {ft2 : EB} {f : EV} {S : _} : eLc2 vs vs1 fi gv ft fj gv2 ft2 f S = match fi S with
  | some (ds, S1) => (match lc2L vs vs1 gv ft fj gv2 ft2 f ds [] S1 with
    | some (acc, S2) => some (.ol acc, S2)
    | none => none)
  | none => none := id rfl
@[simp] theorem x_bOf {f : EV} {S : _} : bOf f S = match f S with
  | some (.fz (.bool b), S') => some (b, S')
  | _ => none := id rfl
@[simp] theorem x_bAnd {fa fb : EB} {S : _} : bAnd fa fb S = match fa S with
  | some (true, S1) => fb S1
  | some (false, S1) => some (false, S1)
  | none => none := id rfl
@[simp] theorem x_bOr {fa fb : EB} {S : _} : bOr fa fb S = match fa S with
  | some (false, S1) => fb S1
  | some (true, S1) => some (true, S1)
  | none => none := id rfl
@[simp] theorem x_bNot {fa : EB} {S : _} : bNot fa S = match fa S with
  | some (b, S1) => some (!b, S1)
  | none => none := id rfl
@[simp] theorem x_eAnd {fa fb : EV} {S : _} : eAnd fa fb S = match fa S with
  | some (.fz (.bool true), S1) => fb S1
  | some (.fz (.bool false), S1) => some (.fz (.bool false), S1)
  | _ => none := id rfl
@[simp] theorem x_eOr {fa fb : EV} {S : _} : eOr fa fb S = match fa S with
  | some (.fz (.bool false), S1) => fb S1
  | some (.fz (.bool true), S1) => some (.fz (.bool true), S1)
  | _ => none := id rfl
@[simp] theorem x_eNot {fa : EV} {S : _} : eNot fa S = match fa S with
  | some (.fz (.bool b), S1) => some (.fz (.bool (!b)), S1)
  | _ => none := id rfl
@[simp] theorem x_eIf {ft : EB} {fa fb : EV} {S : _} : eIf ft fa fb S = match ft S with
  | some (true, S1) => fa S1
  | some (false, S1) => fb S1
  | none => none := id rfl
@[simp] theorem x_pNo {S : _} : pNo  S = some (none, S) := id rfl
@[simp] theorem x_pSo {f : EV} {S : _} : pSo f S = match f S with
  | some (.fz (.int i), S') => some (some i, S')
  | _ => none := id rfl
@[simp] theorem x_eSl {pl ph : Bool} {fe : EV} {fl fh : EOp} {S : _} : eSl pl ph fe fl fh S = match fe S with
  | some (x, S1) => if (pl && ph) || x.isFz then (match fl S1 with
    | some (lo, S2) => (match fh S2 with
      | some (hi, S3) => (match gSl x lo hi with
        | some o => some (o, S3)
        | none => none)
      | none => none)
    | none => none) else none
  | none => none := id rfl
@[simp] theorem x_gLR {f : EV} {S : _} : gLR f S = match f S with
  | some (.fz (.int j), S1) => if okR j && decide (j.toNat ≤ 2 ^ 24) then some (.ol ((rangeD 0 j.toNat).map OV.fz), S1) else none
  | _ => none := id rfl
@[simp] theorem x_gTR {f : EV} {S : _} : gTR f S = match f S with
  | some (.fz (.int j), S1) => if okR j && decide (j.toNat ≤ 2 ^ 24) then some (.fz (.tuple (rangeD 0 j.toNat)), S1) else none
  | _ => none := id rfl
@[simp] theorem x_gApp {i : Nat} {f : EV} {S : _} : gApp i f S = if isOl i S then (match f S with
  | some (y, S1) => (match getS i S1 with
    | some (.ol xs) => if xs.length < sizeLine then some (.nx, modS i (.ol (xs ++ [y])) S1) else none
    | _ => none)
  | none => none) else none := id rfl
@[simp] theorem x_gIns {i : Nat} {fa fb : EV} {S : _} : gIns i fa fb S = if isOl i S then (match fa S with
  | some (.fz (.int j), S1) => (match fb S1 with
    | some (y, S2) => (match getS i S2 with
      | some (.ol xs) => if xs.length < sizeLine ∧ 0 ≤ j ∧ j < 2 ^ 63 then some (.nx, modS i (.ol (xs.take j.toNat ++ [y] ++ xs.drop j.toNat)) S2) else none
      | _ => none)
    | none => none)
  | _ => none) else none := id rfl
@[simp] theorem x_gExt {i : Nat} {f : EV} {S : _} : gExt i f S = if isOl i S then (match f S with
  | some (y, S1) => (match getS i S1, seqX y with
    | some (.ol xs), some ds => if xs.length + ds.length ≤ sizeLine then some (.nx, modS i (.ol (xs ++ ds.map OV.fz)) S1) else none
    | _, _ => none)
  | none => none) else none := id rfl
@[simp] theorem x_gPutIx {i : Nat} {fv fk : EV} {S : _} : gPutIx i fv fk S = match fv S with
  | some (y, S1) => if isOl i S1 then (match fk S1 with
    | some (.fz (.int j), S2) => (match getS i S2 with
      | some (.ol xs) => (match ixN xs.length j with
        | some k => some (.nx, modS i (.ol (xs.set k y)) S2)
        | none => none)
      | _ => none)
    | _ => none) else none
  | none => none := id rfl
@[simp] theorem x_gAugIx {g : Int → Int → Int} {i : Nat} {fk fe : EV} {S : _} : gAugIx g i fk fe S = if isOl i S then (match fk S with
  | some (.fz (.int j), S1) => (match getS i S1 with
    | some (.ol xs) => (match ixN xs.length j with
      | some k => (match xs[k]? with
        | some (.fz (.int u)) => (match fe S1 with
          | some (.fz (.int w), S2) => (match getS i S2 with
            | some (.ol ys) => (match ixN ys.length j with
              | some k2 => some (.nx, modS i (.ol (ys.set k2 (.fz (.int (g u w))))) S2)
              | none => none)
            | _ => none)
          | _ => none)
        | _ => none)
      | none => none)
    | _ => none)
  | _ => none) else none := id rfl
@[simp] theorem x_gAug {g : Int → Int → Int} {i : Nat} {fe : EV} {S : _} : gAug g i fe S = match S[i]? with
  | some (.v (.fz (.int u))) => (match fe S with
    | some (.fz (.int w), S1) => (match putS i (.fz (.int (g u w))) S1 with
      | some S2 => some (.nx, S2)
      | none => none)
    | _ => none)
  | _ => none := id rfl
@[simp] theorem x_gAppIx {i : Nat} {fk f : EV} {S : _} : gAppIx i fk f S = if isOl i S then (match fk S with
  | some (.fz (.int j), S1) => (match getS i S1 with
    | some (.ol xs) => (match ixN xs.length j with
      | some k => (match xs[k]? with
        | some (.ol zs) => (match f S1 with
          | some (y, _) => if zs.length < sizeLine then some (.nx, modS i (.ol (xs.set k (.ol (zs ++ [y])))) S1) else none
          | none => none)
        | _ => none)
      | none => none)
    | _ => none)
  | _ => none) else none := id rfl
@[simp] theorem x_eDGet2 {pb pc : Bool} {fa fb fc : EV} {S : _} : eDGet2 pb pc fa fb fc S = match fa S with
  | some (o, S1) => if (pb && pc) || o.isFz then (match fb S1 with
    | some (.fz d, S2) => (match fc S2 with
      | some (.fz z, S3) => (match dgO o d with
        | some (some (.fz u)) => some (.fz u, S3)
        | some none => some (.fz z, S3)
        | _ => none)
      | _ => none)
    | _ => none) else none
  | none => none := id rfl
@[simp] theorem x_eNewK {S : _} : eNewK  S = some (.ok [] [], S) := id rfl
@[simp] theorem x_eNewT {S : _} : eNewT  S = some (.ot [] [], S) := id rfl
@[simp] theorem x_eDisp1T {fk fv : EV} {S : _} : eDisp1T fk fv S = match fk S with
  | some (.fz d, S1) => (match tkOf d with
    | some ks => (match fv S1 with
      | some (y, S2) => some (.ot [ks] [y], S2)
      | none => none)
    | none => none)
  | _ => none := id rfl
@[simp] theorem x_gDPut {i : Nat} {fv fk : EV} {S : _} : gDPut i fv fk S = match fv S with
  | some (y, S1) => if isDc i S1 then (match fk S1 with
    | some (.fz d, S2) => (match getS i S2 with
      | some o => (match putD o d y with
        | some o' => some (.nx, modS i o' S2)
        | none => none)
      | none => none)
    | _ => none) else none
  | none => none := id rfl
@[simp] theorem x_iItM {i : Nat} {S : _} : iItM i S = match S[i]? with
  | some (.v (.ot ks xs)) => some (itemsOf (OV.ot ks xs).erase, S.set i (.v (.fz (OV.ot ks xs).erase)))
  | some (.v (.ok ks xs)) => some (itemsOf (OV.ok ks xs).erase, S.set i (.v (.fz (OV.ok ks xs).erase)))
  | _ => none := id rfl
@[simp] theorem x_aStar {fa : EV} {fb : EA} {S : _} : aStar fa fb S = match fa S with
  | some (x, S1) => (match seqX x with
    | some ds => (match fb S1 with
      | some (xs, S2) => some (ds.map OV.fz ++ xs, S2)
      | none => none)
    | none => none)
  | none => none := id rfl
@[simp] theorem x_eDGetX {pb : Bool} {fa fb : EV} {S : _} : eDGetX pb fa fb S = match fa S with
  | some (o, S1) => if pb || o.isFz then (match fb S1 with
    | some (.fz d, S2) => (match dgO o d with
      | some (some x) => some (x, S2)
      | _ => none)
    | _ => none) else none
  | none => none := id rfl
@[simp] theorem x_eTake {i : Nat} {S : _} : eTake i S = match S[i]? with
  | some (.v o) => some (o, S.set i .un)
  | _ => none := id rfl
@[simp] theorem x_gRetD {i : Nat} {fk : EV} {S : _} : gRetD i fk S = if hasV i S then (match fk S with
  | some (.fz d, S1) => (match S1[i]? with
    | some (.v (.ot ks xs)) => (match tkOf d with
      | some k => (match lookO k ks xs with
        | some y => some (.rt y, S1.set i .un)
        | none => none)
      | none => none)
    | some (.v (.ok ks xs)) => (match keyOf d with
      | some k => (match lookO k ks xs with
        | some y => some (.rt y, S1.set i .un)
        | none => none)
      | none => none)
    | _ => none)
  | _ => none) else none := id rfl

@[simp] theorem x_putS {i : Nat} {o : OV} {S : SS} : putS i o S = (match S[i]? with
  | some (.io _) => none
  | some _ => some (S.set i (.v o))
  | none => none) := id rfl
@[simp] theorem x_entry_fz {d : PyData} : entry (.fz d) = .v (.fz d) := id rfl
@[simp] theorem x_entry_ol {xs : List OV} : entry (.ol xs) = .io (.ol xs) := id rfl
@[simp] theorem x_isFz {d : PyData} : (OV.fz d).isFz = true := id rfl
@[simp] theorem x_isFz2 {xs : List OV} : (OV.ol xs).isFz = false := id rfl
@[simp] theorem x_erase_fz {d : PyData} : (OV.fz d).erase = d := by simp [OV.erase]
@[simp] theorem x_erase_ol {xs : List OV} : (OV.ol xs).erase = .list (xs.map OV.erase) := by simp [OV.erase, eraseL_map]
@[simp] theorem x_allFz_nil : allFz [] = some [] := id rfl
@[simp] theorem x_allFz_cons {d : PyData} {xs : List OV} : allFz (.fz d :: xs) = (allFz xs).map (d :: ·) := id rfl
@[simp] theorem x_outs_nil {i : Nat} {S : SS} : outs i [] S = [] := id rfl
@[simp] theorem x_outs_fz {i : Nat} {d : PyData} {r : List OV} {S : SS} : outs i (.fz d :: r) S = .fz d :: outs (i + 1) r S := id rfl
@[simp] theorem x_outs_ol {i : Nat} {xs : List OV} {r : List OV} {S : SS} : outs i (.ol xs :: r) S = (match S[i]? with
    | some (.io u) => u
    | _ => .ol xs) :: outs (i + 1) r S := id rfl
@[simp] theorem x_ioOk_nil {i : Nat} {S : SS} : ioOk i [] S = true := id rfl
@[simp] theorem x_ioOk_fz {i : Nat} {d : PyData} {r : List OV} {S : SS} : ioOk i (.fz d :: r) S = ioOk (i + 1) r S := id rfl
@[simp] theorem x_ioOk_ol {i : Nat} {xs : List OV} {r : List OV} {S : SS} : ioOk i (.ol xs :: r) S = ((match S[i]? with
    | some (.io u) => !u.isFz
    | _ => false) && ioOk (i + 1) r S) := id rfl
@[simp] theorem x_wipeS {is : List Nat} {S : SS} : wipeS is S = is.foldl (fun S i => S.set i .un) S := id rfl
theorem x_size : sizeLine = 16777216 := sizeLine_eq
@[simp] theorem x_svOv_v {o : OV} : svOv (.v o) = some (o, false) := id rfl
@[simp] theorem x_svOv_io {o : OV} : svOv (.io o) = some (o, true) := id rfl
end PD
set_option Elab.async false
set_option linter.all false
set_option maxRecDepth 100000
set_option maxHeartbeats 4000000
/-! PDRun: loops of the mirrors, by what stays. -/
namespace PD
open PySem L2
@[simp] theorem x_eqv_int {i j : Int} : PyData.eqv (.int i) (.int j) = (i == j) := by simp [PyData.eqv]
@[simp] theorem x_eqv_tup {i j : List PyData} : PyData.eqv (.tuple i) (.tuple j) = PyData.eqvAll i j := by simp [PyData.eqv]
@[simp] theorem x_eqv_lst {i j : List PyData} : PyData.eqv (.list i) (.list j) = PyData.eqvAll i j := by simp [PyData.eqv]
@[simp] theorem x_eqvAll_nil : PyData.eqvAll [] [] = true := by simp [PyData.eqvAll]
@[simp] theorem x_eqvAll_nc {x : PyData} {xs : List PyData} : PyData.eqvAll [] (x :: xs) = false := by simp [PyData.eqvAll]
@[simp] theorem x_eqvAll_cn {x : PyData} {xs : List PyData} : PyData.eqvAll (x :: xs) [] = false := by simp [PyData.eqvAll]
@[simp] theorem x_eqvAll_cc {x y : PyData} {xs ys : List PyData} : PyData.eqvAll (x :: xs) (y :: ys) = (PyData.eqv x y && PyData.eqvAll xs ys) := by simp [PyData.eqvAll]
@[simp] theorem x_shaped_int {i : Int} : SeqAt.shaped (.int i) = true := by simp [SeqAt.shaped, PyData.canLay0, PyData.depth]
@[simp] theorem x_shaped_non : SeqAt.shaped .none = true := by simp [SeqAt.shaped, PyData.canLay0, PyData.depth]
@[simp] theorem x_shaped_nil : SeqAt.shaped (.tuple []) = true := by decide
/-- the shape of data: no dict, not deep -/
theorem forL_cons {is : List Nat} {gv : GV} {g : SM} {d : PyData} {ds : List PyData} {S S1 S2 : SS} (h1 : gv d S = some S1) (h2 : g S1 = some (.nx, S2)) : forL is gv g (d :: ds) S = forL is gv g ds (wipeS is S2) := by
  rw [forL, h1]
  simp only [h2]
theorem gFor_of {is : List Nat} {fi : EI} {gv : GV} {g : SM} {S S1 : SS} {ds : List PyData} {r : Option (Fl × SS)} (hi : fi S = some (ds, S1)) (h : forL is gv g ds (wipeS is S1) = r) : gFor is fi gv g S = r := by
  unfold gFor
  rw [hi]
  exact h
theorem forL_rel {is : List Nat} {gv : GV} {g : SM} (I : List PyData → SS → Prop) (step : ∀ d r S, I (d :: r) S → ∃ S1 S2, gv d S = some S1 ∧ (g S1 = some (.nx, S2) ∨ g S1 = some (.ct, S2)) ∧ I r (wipeS is S2)) :
    ∀ (ds : List PyData) (S : SS), I ds S → ∃ S', forL is gv g ds S = some (.nx, S') ∧ I [] S'
  | [], S, h => ⟨S, rfl, h⟩
  | d :: ds, S, h => by
    obtain ⟨S1, S2, h1, h2, h3⟩ := step d ds S h
    obtain ⟨S', h4, h5⟩ := forL_rel I step ds _ h3
    refine ⟨S', ?_, h5⟩
    unfold forL
    rw [h1]
    rcases h2 with h2 | h2
    · simp only [h2]; exact h4
    · simp only [h2]; exact h4
theorem gFor_rel {is : List Nat} {fi : EI} {gv : GV} {g : SM} {S S1 : SS} {ds : List PyData} (hi : fi S = some (ds, S1)) (I : List PyData → SS → Prop) (h0 : I ds (wipeS is S1))
    (step : ∀ d r S, I (d :: r) S → ∃ S1 S2, gv d S = some S1 ∧ (g S1 = some (.nx, S2) ∨ g S1 = some (.ct, S2)) ∧ I r (wipeS is S2)) : ∃ S', gFor is fi gv g S = some (.nx, S') ∧ I [] S' := by
  obtain ⟨S', h1, h2⟩ := forL_rel I step ds _ h0
  refine ⟨S', ?_, h2⟩
  unfold gFor
  rw [hi]
  exact h1
theorem lcL_rel {vs : List Nat} {gv : GV} {ft : EB} {f : EV} (I : List PyData → List OV → SS → Prop)
    (step : ∀ d r acc S, I (d :: r) acc S → ∃ S1, gv d (wipeS vs S) = some S1 ∧ ((∃ S2 o S3, ft S1 = some (true, S2) ∧ f S2 = some (o, S3) ∧ acc.length < sizeLine ∧ I r (acc ++ [o]) (wipeS vs S3)) ∨ ∃ S2, ft S1 = some (false, S2) ∧ I r acc (wipeS vs S2))) :
    ∀ (ds : List PyData) (acc : List OV) (S : SS), I ds acc S → ∃ acc' S', lcL vs gv ft f ds acc S = some (acc', S') ∧ I [] acc' S'
  | [], acc, S, h => ⟨acc, S, rfl, h⟩
  | d :: ds, acc, S, h => by
    obtain ⟨S1, h1, h2⟩ := step d ds acc S h
    rcases h2 with ⟨S2, o, S3, h2, h3, h4, h5⟩ | ⟨S2, h2, h5⟩
    · obtain ⟨acc', S', h6, h7⟩ := lcL_rel I step ds _ _ h5
      refine ⟨acc', S', ?_, h7⟩
      unfold lcL
      simp only [h1, h2, h3, if_pos h4]
      exact h6
    · obtain ⟨acc', S', h6, h7⟩ := lcL_rel I step ds _ _ h5
      refine ⟨acc', S', ?_, h7⟩
      unfold lcL
      simp only [h1, h2]
      exact h6
theorem eLc_rel {vs : List Nat} {fi : EI} {gv : GV} {ft : EB} {f : EV} {S S1 : SS} {ds : List PyData} (hi : fi S = some (ds, S1)) (I : List PyData → List OV → SS → Prop) (h0 : I ds [] S1)
    (step : ∀ d r acc S, I (d :: r) acc S → ∃ S1, gv d (wipeS vs S) = some S1 ∧ ((∃ S2 o S3, ft S1 = some (true, S2) ∧ f S2 = some (o, S3) ∧ acc.length < sizeLine ∧ I r (acc ++ [o]) (wipeS vs S3)) ∨ ∃ S2, ft S1 = some (false, S2) ∧ I r acc (wipeS vs S2))) :
    ∃ acc S', eLc vs fi gv ft f S = some (.ol acc, S') ∧ I [] acc S' := by
  obtain ⟨acc, S', h1, h2⟩ := lcL_rel I step ds [] S1 h0
  refine ⟨acc, S', ?_, h2⟩
  unfold eLc
  rw [hi]
  simp only [h1]
theorem wipeS_get {S : SS} : ∀ {vs : List Nat} {j : Nat}, (wipeS vs S)[j]? = if j ∈ vs then (S[j]?).map (fun _ => SV.un) else S[j]? := by
  intro vs
  unfold wipeS
  induction vs generalizing S with
  | nil => intro j; simp
  | cons v vs ih =>
    intro j
    rw [List.foldl_cons, ih, List.getElem?_set]
    by_cases hj : j = v
    · subst hj
      by_cases h2 : j < S.length
      · simp [h2]
      · simp [h2]
    · simp only [List.mem_cons, hj, false_or]
      rw [if_neg (Ne.symm hj)]
theorem wipe_wipe (vs : List Nat) (S : SS) : wipeS vs (wipeS vs S) = wipeS vs S := by
  apply List.ext_getElem?
  intro j
  rw [wipeS_get, wipeS_get]
  split
  · cases S[j]? <;> rfl
  · rfl
/-- a comprehension that changes nothing but its own names: item by item -/
theorem lcL_map {vs : List Nat} {gv : GV} {ft : EB} {f : EV} {A : Type} (enc : A → PyData) (c : A → Bool) (o : A → OV) : ∀ (as : List A) (acc : List OV) (S : SS),
    (∀ a ∈ as, ∃ S1 S2, gv (enc a) (wipeS vs S) = some S1 ∧ ft S1 = some (c a, S2) ∧ (c a = true → ∃ S3, f S2 = some (o a, S3) ∧ wipeS vs S3 = wipeS vs S) ∧ (c a = false → wipeS vs S2 = wipeS vs S)) → acc.length + as.length ≤ sizeLine →
    lcL vs gv ft f (as.map enc) acc S = some (acc ++ (as.filter c).map o, if as.isEmpty then S else wipeS vs S)
  | [], acc, S, _, _ => by simp [lcL]
  | a :: as, acc, S, h, hz => by
    obtain ⟨S1, S2, h1, h2, h3, h4⟩ := h a List.mem_cons_self
    have hz' : acc.length + (as.length + 1) ≤ sizeLine := by simpa using hz
    rw [List.map_cons]
    unfold lcL
    simp only [h1, h2]
    have hr : ∀ (acc : List OV), acc.length + as.length ≤ sizeLine → lcL vs gv ft f (as.map enc) acc (wipeS vs S) = some (acc ++ (as.filter c).map o, wipeS vs S) := fun acc hz => by
      rw [lcL_map enc c o as acc _ (fun b hb => by rw [wipe_wipe]; exact h b (List.mem_cons_of_mem _ hb)) hz, wipe_wipe]
      simp
    cases hc : c a with
    | true =>
      obtain ⟨S3, h5, h6⟩ := h3 hc
      simp only [h5]
      rw [if_pos (by omega), h6, hr _ (by rw [List.length_append, List.length_singleton]; omega)]
      simp [hc]
    | false =>
      simp only
      rw [h4 hc, hr _ (by omega)]
      simp [hc]
theorem eLc_map {vs : List Nat} {fi : EI} {gv : GV} {ft : EB} {f : EV} {A : Type} (enc : A → PyData) (c : A → Bool) (o : A → OV) {S S0 : SS} {as : List A} (hi : fi S0 = some (as.map enc, S)) (hz : as.length ≤ sizeLine)
    (h : ∀ a ∈ as, ∃ S1 S2, gv (enc a) (wipeS vs S) = some S1 ∧ ft S1 = some (c a, S2) ∧ (c a = true → ∃ S3, f S2 = some (o a, S3) ∧ wipeS vs S3 = wipeS vs S) ∧ (c a = false → wipeS vs S2 = wipeS vs S)) :
    eLc vs fi gv ft f S0 = some (.ol ((as.filter c).map o), if as.isEmpty then S else wipeS vs S) := by
  unfold eLc
  rw [hi]
  simp only
  rw [lcL_map enc c o as [] S h (by simpa using hz)]
  simp
theorem wipe_sub {vs vs1 : List Nat} (h : ∀ j ∈ vs1, j ∈ vs) (S : SS) : wipeS vs (wipeS vs1 S) = wipeS vs S := by
  apply List.ext_getElem?
  intro j
  rw [wipeS_get, wipeS_get, wipeS_get]
  by_cases hj : j ∈ vs
  · rw [if_pos hj, if_pos hj]
    split
    · cases S[j]? <;> rfl
    · rfl
  · rw [if_neg hj, if_neg hj, if_neg fun z => hj (h j z)]
/-- two clauses, the inner one without a test -/
theorem lc2L_map {vs vs1 : List Nat} {gv gv2 : GV} {fj : EI} {f : EV} {A B : Type} (encA : A → PyData) (encB : B → PyData) (bs : A → List B) (o : A → B → OV) (hv : ∀ j ∈ vs1, j ∈ vs) : ∀ (as : List A) (acc : List OV) (S : SS),
    (∀ a ∈ as, ∃ S1 S3, gv (encA a) (wipeS vs S) = some S1 ∧ fj S1 = some ((bs a).map encB, S3) ∧ wipeS vs S3 = wipeS vs S ∧
      ∀ b ∈ bs a, ∃ S4 S5, gv2 (encB b) (wipeS vs1 S3) = some S4 ∧ f S4 = some (o a b, S5) ∧ wipeS vs1 S5 = wipeS vs1 S3) → acc.length + (as.flatMap bs).length ≤ sizeLine →
    lc2L vs vs1 gv bYes fj gv2 bYes f (as.map encA) acc S = some (acc ++ as.flatMap (fun a => (bs a).map (o a)), if as.isEmpty then S else wipeS vs S)
  | [], acc, S, _, _ => by simp [lc2L]
  | a :: as, acc, S, h, hz => by
    obtain ⟨S1, S3, h1, h2, h3, h4⟩ := h a List.mem_cons_self
    rw [List.flatMap_cons, List.length_append] at hz
    rw [List.map_cons]
    unfold lc2L
    have hin := lcL_map (vs := vs1) (gv := gv2) (ft := bYes) (f := f) encB (fun _ => true) (o a) (bs a) acc S3 (fun b hb => by
      obtain ⟨S4, S5, g1, g2, g3⟩ := h4 b hb
      exact ⟨S4, S4, g1, rfl, fun _ => ⟨S5, g2, g3⟩, fun z => by cases z⟩) (by omega)
    have hf : (bs a).filter (fun _ => true) = bs a := by simp
    rw [hf] at hin
    have hw : wipeS vs (if (bs a).isEmpty then S3 else wipeS vs1 S3) = wipeS vs S := by
      split
      · exact h3
      · rw [wipe_sub hv, h3]
    simp only [h1, show ∀ S, bYes S = some (true, S) from fun _ => rfl, h2, hin, hw]
    rw [lc2L_map encA encB bs o hv as _ _ (fun x hx => by rw [wipe_wipe]; exact h x (List.mem_cons_of_mem _ hx)) (by rw [List.length_append, List.length_map]; omega), wipe_wipe]
    simp
theorem eLc2_map {vs vs1 : List Nat} {fi : EI} {gv gv2 : GV} {fj : EI} {f : EV} {A B : Type} (encA : A → PyData) (encB : B → PyData) (bs : A → List B) (o : A → B → OV) (hv : ∀ j ∈ vs1, j ∈ vs) {as : List A} {S0 S : SS} (hi : fi S0 = some (as.map encA, S))
    (h : ∀ a ∈ as, ∃ S1 S3, gv (encA a) (wipeS vs S) = some S1 ∧ fj S1 = some ((bs a).map encB, S3) ∧ wipeS vs S3 = wipeS vs S ∧
      ∀ b ∈ bs a, ∃ S4 S5, gv2 (encB b) (wipeS vs1 S3) = some S4 ∧ f S4 = some (o a b, S5) ∧ wipeS vs1 S5 = wipeS vs1 S3) (hz : (as.flatMap bs).length ≤ sizeLine) :
    eLc2 vs vs1 fi gv bYes fj gv2 bYes f S0 = some (.ol (as.flatMap (fun a => (bs a).map (o a))), if as.isEmpty then S else wipeS vs S) := by
  unfold eLc2
  rw [hi]
  simp only
  rw [lc2L_map encA encB bs o hv as [] S h (by simpa using hz)]
  simp
theorem zipD_eq (ds es : List PyData) : zipD ds es = (ds.zip es).map fun x => .tuple [x.1, x.2] := by
  unfold zipD
  apply List.ext_getElem
  · simp
  · intro i h1 h2
    have h3 : i < min ds.length es.length := by simpa using h1
    have h4 : i < ds.length := by omega
    have h5 : i < es.length := by omega
    simp [h4, h5]
theorem enumD_eq (ds : List PyData) : enumD ds = ds.zipIdx.map fun x => .tuple [.int x.2, x.1] := by
  unfold enumD
  apply List.ext_getElem
  · simp
  · intro i h1 h2
    have h4 : i < ds.length := by simpa using h1
    simp [h4]
end PD
set_option Elab.async false
set_option linter.all false
set_option maxRecDepth 100000
set_option maxHeartbeats 4000000
/-! PDNum: numbers (terms of a power and a fraction), plain. -/
namespace PD
open PySem L2
abbrev Tms := List (Int × Rat)
def encR (q : Rat) : PyData := .tuple [.int q.num, .int q.den]
def encT (t : Int × Rat) : PyData := .tuple [.int t.1, encR t.2]
def encN (l : Tms) : PyData := .tuple (l.map encT)
/-- the factor of the power k -/
def val : Tms → Int → Rat
  | [], _ => 0
  | t :: ts, k => (if t.1 = k then t.2 else 0) + val ts k
@[simp] theorem val_nil {k : Int} : val [] k = 0 := rfl
theorem val_cons {t : Int × Rat} {ts : Tms} {k : Int} : val (t :: ts) k = (if t.1 = k then t.2 else 0) + val ts k := rfl
theorem val_append : ∀ (a b : Tms) (k : Int), val (a ++ b) k = val a k + val b k
  | [], b, k => by simp [val]; grind
  | t :: a, b, k => by simp only [List.cons_append, val]; rw [val_append a b k]; grind
theorem val_perm {a b : Tms} (h : a.Perm b) (k : Int) : val a k = val b k := by
  induction h with
  | nil => rfl
  | cons x _ ih => simp only [val, ih]
  | swap x y l => simp only [val]; grind
  | trans _ _ h1 h2 => exact h1.trans h2
theorem val_out : ∀ {a : Tms} {k : Int}, k ∉ a.map (·.1) → val a k = 0
  | [], _, _ => rfl
  | t :: a, k, h => by
    simp only [List.map_cons, List.mem_cons, not_or] at h
    simp only [val]
    rw [if_neg (fun z => h.1 z.symm), val_out h.2]
    grind
/-- in order, without zeros -/
structure Cn (l : Tms) : Prop where
  asc : (l.map (·.1)).Pairwise (· < ·)
  nz : ∀ t ∈ l, t.2 ≠ 0
theorem Cn.nil : Cn [] := ⟨List.Pairwise.nil, fun _ h => nomatch h⟩
theorem Cn.head {t : Int × Rat} {l : Tms} (h : Cn (t :: l)) : Cn l ∧ (∀ x ∈ l.map (·.1), t.1 < x) ∧ t.2 ≠ 0 := by
  have := h.asc
  rw [List.map_cons, List.pairwise_cons] at this
  exact ⟨⟨this.2, fun x hx => h.nz x (List.mem_cons_of_mem _ hx)⟩, this.1, h.nz t List.mem_cons_self⟩
theorem Cn.val_head {t : Int × Rat} {l : Tms} (h : Cn (t :: l)) : val (t :: l) t.1 = t.2 := by
  obtain ⟨_, h2, _⟩ := h.head
  rw [val_cons, if_pos rfl, val_out fun z => Int.lt_irrefl _ (h2 _ z)]
  grind
theorem Cn.val_below {t : Int × Rat} {l : Tms} (h : Cn (t :: l)) {k : Int} (hk : k < t.1) : val (t :: l) k = 0 := by
  obtain ⟨_, h2, _⟩ := h.head
  refine val_out fun z => ?_
  rw [List.map_cons] at z
  rcases List.mem_cons.mp z with z | z
  · omega
  · have := h2 _ z; omega
theorem Cn.ext : ∀ {a b : Tms}, Cn a → Cn b → (∀ k, val a k = val b k) → a = b
  | [], [], _, _, _ => rfl
  | [], t :: b, _, hb, h => by
    exfalso
    have := h t.1
    rw [hb.val_head] at this
    exact hb.head.2.2 this.symm
  | t :: a, [], ha, _, h => by
    exfalso
    have := h t.1
    rw [ha.val_head] at this
    exact ha.head.2.2 this
  | t :: a, u :: b, ha, hb, h => by
    have e1 : t.1 = u.1 := by
      rcases Int.lt_trichotomy t.1 u.1 with z | z | z
      · exfalso
        have := h t.1
        rw [ha.val_head, hb.val_below z] at this
        exact ha.head.2.2 this
      · exact z
      · exfalso
        have := h u.1
        rw [hb.val_head, ha.val_below z] at this
        exact hb.head.2.2 this.symm
    have e2 : t.2 = u.2 := by
      have := h t.1
      rw [ha.val_head, e1, hb.val_head] at this
      exact this
    have e : t = u := Prod.ext e1 e2
    subst e
    rw [Cn.ext ha.head.1 hb.head.1 fun k => by
      have := h k
      rw [val_cons, val_cons] at this
      grind]

/-! ### sizes -/
/-- the numerator over D -/
def nz (D : Nat) (q : Rat) : Int := q.num * ((D / q.den : Nat) : Int)
theorem nz_spec {D : Nat} (hD : 0 < D) {q : Rat} (h : q.den ∣ D) : q = mkRat (nz D q) D := by
  obtain ⟨c, rfl⟩ := h
  have hq : 0 < q.den := q.den_pos
  have hc : 0 < c := Nat.pos_of_ne_zero fun z => by rw [z] at hD; simp at hD
  unfold nz
  rw [Nat.mul_div_cancel_left c hq]
  conv => lhs; rw [← Rat.mkRat_self q]
  rw [Rat.mkRat_eq_iff (by omega) (by omega)]
  push_cast
  grind
theorem den_mkRat_dvd (a : Int) {D : Nat} (hD : 0 < D) : (mkRat a D).den ∣ D := by
  rw [Rat.den_mkRat, if_neg (by omega)]
  exact Nat.div_dvd_of_dvd (Nat.gcd_dvd_left _ _)
theorem nz_mkRat (a : Int) {D : Nat} (hD : 0 < D) : nz D (mkRat a D) = a := by
  have h := nz_spec hD (den_mkRat_dvd a hD)
  rw [Rat.mkRat_eq_iff (by omega) (by omega)] at h
  exact Int.eq_of_mul_eq_mul_right (by omega : (D : Int) ≠ 0) h.symm
theorem mkRat_add_same (a b : Int) {D : Nat} (hD : 0 < D) : mkRat a D + mkRat b D = mkRat (a + b) D := by
  rw [Rat.mkRat_add_mkRat _ _ (by omega) (by omega), Rat.mkRat_eq_iff (by
    have := Nat.mul_pos hD hD
    omega) (by omega)]
  push_cast
  grind
theorem nz_add {D : Nat} (hD : 0 < D) {q r : Rat} (hq : q.den ∣ D) (hr : r.den ∣ D) : nz D (q + r) = nz D q + nz D r ∧ (q + r).den ∣ D := by
  rw [nz_spec hD hq, nz_spec hD hr, mkRat_add_same _ _ hD, nz_mkRat _ hD, nz_mkRat _ hD, nz_mkRat _ hD]
  exact ⟨rfl, den_mkRat_dvd _ hD⟩
theorem nz_mul {D E : Nat} (hD : 0 < D) (hE : 0 < E) {q r : Rat} (hq : q.den ∣ D) (hr : r.den ∣ E) : nz (D * E) (q * r) = nz D q * nz E r ∧ (q * r).den ∣ D * E := by
  have hDE := Nat.mul_pos hD hE
  rw [nz_spec hD hq, nz_spec hE hr, Rat.mkRat_mul_mkRat, nz_mkRat _ hDE, nz_mkRat _ hD, nz_mkRat _ hE]
  exact ⟨rfl, den_mkRat_dvd _ hDE⟩
theorem num_le {D : Nat} (hD : 0 < D) {q : Rat} (hq : q.den ∣ D) : q.num.natAbs ≤ (nz D q).natAbs ∧ q.den ≤ D := by
  refine ⟨?_, Nat.le_of_dvd hD hq⟩
  obtain ⟨c, rfl⟩ := hq
  have hc : 0 < c := Nat.pos_of_ne_zero fun z => by rw [z] at hD; simp at hD
  unfold nz
  rw [Nat.mul_div_cancel_left c q.den_pos, Int.natAbs_mul]
  exact Nat.le_mul_of_pos_right _ (by simpa using hc)
theorem le_sum_mem : ∀ {l : List Nat} {x : Nat}, x ∈ l → x ≤ l.sum
  | y :: l, x, h => by
    rw [List.sum_cons]
    rcases List.mem_cons.mp h with h | h
    · omega
    · have := le_sum_mem h; omega
def l1 (D : Nat) (ts : Tms) : Nat := (ts.map fun t => (nz D t.2).natAbs).sum
/-- all dens divide D, the numerators' sum is at most M, the powers within R -/
structure Bd (D M : Nat) (R : Int) (ts : Tms) : Prop where
  dv : ∀ t ∈ ts, t.2.den ∣ D
  le : l1 D ts ≤ M
  rg : ∀ t ∈ ts, -R ≤ t.1 ∧ t.1 ≤ R
theorem l1_cons {D : Nat} {t : Int × Rat} {ts : Tms} : l1 D (t :: ts) = (nz D t.2).natAbs + l1 D ts := by simp [l1]
theorem l1_append {D : Nat} {a b : Tms} : l1 D (a ++ b) = l1 D a + l1 D b := by simp [l1]
theorem Bd.nil {D M : Nat} {R : Int} : Bd D M R [] := ⟨fun _ h => (nomatch h), by simp [l1], fun _ h => (nomatch h)⟩
theorem Bd.append {D M M' : Nat} {R : Int} {a b : Tms} (h : Bd D M R a) (h' : Bd D M' R b) : Bd D (M + M') R (a ++ b) :=
  ⟨fun t ht => (List.mem_append.mp ht).elim (h.dv t) (h'.dv t), by rw [l1_append]; exact Nat.add_le_add h.le h'.le, fun t ht => (List.mem_append.mp ht).elim (h.rg t) (h'.rg t)⟩
theorem Bd.mono {D M M' : Nat} {R R' : Int} {a : Tms} (h : Bd D M R a) (hM : M ≤ M') (hR : R ≤ R') : Bd D M' R' a := ⟨h.dv, Nat.le_trans h.le hM, fun t ht => by have := h.rg t ht; omega⟩
theorem Bd.one {D M : Nat} {R : Int} {a : Tms} (h : Bd D M R a) {t : Int × Rat} (ht : t ∈ a) (hD : 0 < D) : t.2.num.natAbs ≤ M ∧ t.2.den ≤ D := by
  have h1 := num_le hD (h.dv t ht)
  refine ⟨Nat.le_trans h1.1 (Nat.le_trans ?_ h.le), h1.2⟩
  unfold l1
  exact le_sum_mem (List.mem_map.mpr ⟨t, ht, rfl⟩)
/-- a finer den -/
theorem nz_scale {D E : Nat} (hD : 0 < D) (hE : 0 < E) {q : Rat} (hq : q.den ∣ D) : nz (D * E) q = nz D q * E ∧ q.den ∣ D * E := by
  have h := nz_mul hD hE hq (r := 1) (by simp)
  rw [Rat.mul_one] at h
  have e : nz E 1 = E := by simp [nz]
  rw [e] at h
  exact h

/-! ### a table of powers -/
def getA (k : Int) : Tms → Option Rat
  | [] => none
  | t :: ts => if t.1 = k then some t.2 else getA k ts
def putA (k : Int) (q : Rat) : Tms → Tms
  | [] => [(k, q)]
  | t :: ts => if t.1 = k then (k, q) :: ts else t :: putA k q ts
def addA (t : Int × Rat) (acc : Tms) : Tms := putA t.1 ((getA t.1 acc).getD 0 + t.2) acc
theorem look_acc (k : Int) : ∀ acc : Tms, lookO (Sum.inl k : Key) (acc.map fun t => Sum.inl t.1) (acc.map fun t => OV.fz (encR t.2)) = (getA k acc).map fun q => OV.fz (encR q)
  | [] => rfl
  | t :: acc => by
    simp only [List.map_cons, lookO, getA]
    by_cases h : t.1 = k
    · simp [h]
    · rw [if_neg h, if_neg (fun z => h (Sum.inl.inj z)), look_acc k acc]
theorem put_acc (k : Int) (q : Rat) : ∀ acc : Tms, putO (Sum.inl k : Key) (OV.fz (encR q)) (acc.map fun t => Sum.inl t.1) (acc.map fun t => OV.fz (encR t.2)) = ((putA k q acc).map (fun t => Sum.inl t.1), (putA k q acc).map fun t => OV.fz (encR t.2))
  | [] => rfl
  | t :: acc => by
    simp only [List.map_cons, putO, putA]
    by_cases h : t.1 = k
    · simp [h]
    · rw [if_neg h, if_neg (fun z => h (Sum.inl.inj z)), put_acc k q acc]
      rfl
theorem putA_keys (k : Int) (q : Rat) : ∀ acc : Tms, (∀ x, x ∈ (putA k q acc).map (·.1) ↔ x = k ∨ x ∈ acc.map (·.1)) ∧ ((acc.map (·.1)).Nodup → ((putA k q acc).map (·.1)).Nodup)
  | [] => by simp [putA]
  | t :: acc => by
    unfold putA
    obtain ⟨h1, h2⟩ := putA_keys k q acc
    by_cases h : t.1 = k
    · rw [if_pos h]
      constructor
      · intro x
        simp only [List.map_cons, List.mem_cons, h]
        grind
      · intro hn
        simpa only [List.map_cons, h] using hn
    · rw [if_neg h]
      constructor
      · intro x
        simp only [List.map_cons, List.mem_cons, h1]
        grind
      · intro hn
        simp only [List.map_cons, List.nodup_cons] at hn ⊢
        exact ⟨fun z => by
          rcases (h1 _).mp z with z | z
          · exact h z
          · exact hn.1 z, h2 hn.2⟩
theorem getA_val {k : Int} : ∀ {acc : Tms}, (acc.map (·.1)).Nodup → (getA k acc).getD 0 = val acc k
  | [], _ => rfl
  | t :: acc, h => by
    simp only [List.map_cons, List.nodup_cons] at h
    simp only [getA, val]
    by_cases e : t.1 = k
    · rw [if_pos e, if_pos e, val_out (fun z => h.1 (e ▸ z))]
      show t.2 = t.2 + 0
      grind
    · rw [if_neg e, if_neg e, getA_val h.2]
      grind
theorem val_putA {k : Int} {q : Rat} {j : Int} : ∀ {acc : Tms}, (acc.map (·.1)).Nodup → val (putA k q acc) j = val acc j + if k = j then q - (getA k acc).getD 0 else 0
  | [], _ => by simp only [putA, val, getA, Option.getD_none]; grind
  | t :: acc, h => by
    simp only [List.map_cons, List.nodup_cons] at h
    simp only [putA, getA]
    by_cases e : t.1 = k
    · rw [if_pos e, if_pos e, Option.getD_some]
      simp only [val]
      grind
    · rw [if_neg e, if_neg e]
      simp only [val]
      rw [val_putA h.2]
      grind
theorem val_addA {t : Int × Rat} {acc : Tms} (h : (acc.map (·.1)).Nodup) (j : Int) : val (addA t acc) j = val acc j + if t.1 = j then t.2 else 0 := by
  unfold addA
  rw [val_putA h]
  grind
theorem addA_nodup {t : Int × Rat} {acc : Tms} (h : (acc.map (·.1)).Nodup) : ((addA t acc).map (·.1)).Nodup := (putA_keys _ _ _).2 h
theorem putA_mem {k : Int} {q : Rat} {u : Int × Rat} : ∀ {acc : Tms}, u ∈ putA k q acc → u = (k, q) ∨ u ∈ acc
  | [], h => by simp [putA] at h; exact .inl h
  | t :: acc, h => by
    unfold putA at h
    split at h
    · rcases List.mem_cons.mp h with h | h
      · exact .inl h
      · exact .inr (List.mem_cons_of_mem _ h)
    · rcases List.mem_cons.mp h with h | h
      · exact .inr (h ▸ List.mem_cons_self)
      · exact (putA_mem h).imp id (List.mem_cons_of_mem _)
theorem getA_mem {k : Int} {q : Rat} : ∀ {acc : Tms}, getA k acc = some q → (k, q) ∈ acc
  | t :: acc, h => by
    unfold getA at h
    split at h
    · rename_i e; cases h; rw [← e]; exact List.mem_cons_self
    · exact List.mem_cons_of_mem _ (getA_mem h)
theorem getD_dv {D : Nat} {k : Int} {acc : Tms} (h : ∀ t ∈ acc, t.2.den ∣ D) : ((getA k acc).getD 0).den ∣ D := by
  cases e : getA k acc with
  | none => simp
  | some q => exact h _ (getA_mem e)
theorem l1_putA {D : Nat} {k : Int} {q : Rat} : ∀ {acc : Tms}, l1 D (putA k q acc) + (nz D ((getA k acc).getD 0)).natAbs = l1 D acc + (nz D q).natAbs
  | [] => by simp [putA, l1, getA, nz]
  | t :: acc => by
    have e2 : l1 D ((k, q) :: acc) = (nz D q).natAbs + l1 D acc := l1_cons
    have e3 : l1 D (t :: acc) = (nz D t.2).natAbs + l1 D acc := l1_cons
    have e4 : l1 D (t :: putA k q acc) = (nz D t.2).natAbs + l1 D (putA k q acc) := l1_cons
    unfold putA getA
    by_cases e : t.1 = k
    · rw [if_pos e, if_pos e, e2, e3, Option.getD_some]
      omega
    · rw [if_neg e, if_neg e, e3, e4]
      have := l1_putA (D := D) (k := k) (q := q) (acc := acc)
      omega
theorem Bd.addA {D M M' : Nat} {R : Int} {t : Int × Rat} {acc : Tms} (hD : 0 < D) (h : Bd D M R acc) (h' : Bd D M' R [t]) : Bd D (M + M') R (addA t acc) := by
  have ht := h'.dv t (by simp)
  have hg := getD_dv (k := t.1) h.dv
  obtain ⟨s1, s2⟩ := nz_add hD hg ht
  refine ⟨fun u hu => ?_, ?_, fun u hu => ?_⟩
  · rcases putA_mem hu with z | z
    · rw [z]; exact s2
    · exact h.dv u z
  · have e := l1_putA (D := D) (k := t.1) (q := (getA t.1 acc).getD 0 + t.2) (acc := acc)
    have e2 := h'.le
    rw [l1_cons] at e2
    have e3 := h.le
    rw [s1] at e
    have : (nz D ((getA t.1 acc).getD 0) + nz D t.2).natAbs ≤ (nz D ((getA t.1 acc).getD 0)).natAbs + (nz D t.2).natAbs := Int.natAbs_add_le _ _
    unfold PD.addA
    omega
  · rcases putA_mem hu with z | z
    · rw [z]; exact h'.rg t (by simp)
    · exact h.rg u z
end PD
set_option Elab.async false
set_option linter.all false
set_option maxRecDepth 100000
set_option maxHeartbeats 4000000
namespace PD.G
open PySem PySem.Spec PyProof.Rows L2 PD
def topS (i : Nat) : Stmt := PySem.Challenge.pw_leastpowers_k53_polynomials.main.body.getD i (.Pass ⟨0, 0, 0, 0⟩)
section
variable {P : Program} {w : World} {K : Frg} {mg : Str → Option Value} {base : Heap}
/-! ### lowest -/
abbrev s_lowest : Stmt := topS 5
theorem sc_lowest : FnScope ["num", "den", "common"] ["num", "den"] (defScope s_lowest) := ⟨rfl, rfl, rfl, by decide +kernel, rfl, by decide +kernel, by decide +kernel⟩
def mb_lowest : SM :=
  (gSeq (gSet 2 (eCall gGcd (aCons true (eVar 0) (aCons true (eVar 1) aNil))))
  (gRet (eCall gTup' (aCons true (eBin gDiv true (eVar 0) (eVar 2)) (aCons true (eBin gDiv true (eVar 1) (eVar 2)) aNil)))))
def m_lowest : Mir := fnM 2 3 mb_lowest
theorem ok_lowest {f : Addr} {fd : FuncData} (F : Fun K "lowest" "lowest" s_lowest f fd) (z_gcd : mg "gcd" = some (.builtin "math.gcd")) : FnG P w K mg base 1 f fd ["num", "den"] (spF K m_lowest) :=
  have nd := sc_lowest.nd
  fn_ok F sc_lowest (by decide) fun cdv A outer s H E hgd hr => by
    unfold mb_lowest
    exact (s_cons (s_set nd rfl (.inl rfl) (d_gcd (by rfl) z_gcd (a_cons (d_var 0 (pv 0)) (a_cons (d_var 1 (pv 1)) a_nil))))
  (s_one (s_ret (d_tup (a_cons ((d_fdiv (d_var 0 (pv 0)) (d_var 2 (pv 2)))).x (a_cons ((d_fdiv (d_var 1 (pv 1)) (d_var 2 (pv 2)))).x a_nil))))))
/-! ### term -/
abbrev s_term : Stmt := topS 6
theorem sc_term : FnScope ["power", "factor"] ["power", "factor"] (defScope s_term) := ⟨rfl, rfl, rfl, by decide +kernel, rfl, by decide +kernel, by decide +kernel⟩
def mb_term : SM :=
  (gRet (eIf (bOf (eBin gEq true (eBin gIx true (eVar 1) (eC (.int 0))) (eC (.int 0)))) (eCall gTup' aNil) (eCall gTup' (aCons true (eCall gTup' (aCons true (eVar 0) (aCons true (eVar 1) aNil))) aNil))))
def m_term : Mir := fnM 2 2 mb_term
theorem ok_term {f : Addr} {fd : FuncData} (F : Fun K "term" "term" s_term f fd) : FnG P w K mg base 1 f fd ["power", "factor"] (spF K m_term) :=
  have nd := sc_term.nd
  fn_ok F sc_term (by decide) fun cdv A outer s H E hgd hr => by
    unfold mb_term
    exact (s_one (s_ret (d_if (t_eq hr (d_item (d_var 1 (pv 1)) (d_int).x).x (d_int).x) (d_tup a_nil) (d_tup (a_cons ((d_tup (a_cons (d_var 0 (pv 0)) (a_cons (d_var 1 (pv 1)) a_nil)))).x a_nil)))))
/-! ### order_of -/
abbrev s_order_of : Stmt := topS 7
theorem sc_order_of : FnScope ["number"] ["number"] (defScope s_order_of) := ⟨rfl, rfl, rfl, by decide +kernel, rfl, by decide +kernel, by decide +kernel⟩
def mb_order_of : SM :=
  (gRet (eIf (bOf (eBin gEq true (eVar 0) (eCall gTup' aNil))) (eC .none) (eBin gIx true (eBin gIx true (eVar 0) (eC (.int 0))) (eC (.int 0)))))
def m_order_of : Mir := fnM 1 1 mb_order_of
theorem ok_order_of {f : Addr} {fd : FuncData} (F : Fun K "order_of" "order_of" s_order_of f fd) : FnG P w K mg base 1 f fd ["number"] (spF K m_order_of) :=
  have nd := sc_order_of.nd
  fn_ok F sc_order_of (by decide) fun cdv A outer s H E hgd hr => by
    unfold mb_order_of
    exact (s_one (s_ret (d_if (t_eq hr (d_var 0 (pv 0)) (d_tup a_nil).x) d_non (d_item (d_item (d_var 0 (pv 0)) (d_int).x).x (d_int).x))))
/-! ### gathered -/
abbrev s_gathered : Stmt := topS 8
theorem sc_gathered : FnScope ["terms", "found", "power", "num", "den", "its", "part"] ["terms"] (defScope s_gathered) := ⟨rfl, rfl, rfl, by decide +kernel, rfl, by decide +kernel, by decide +kernel⟩
def fg_gathered_1 : GV := (tgT 2 (tgCons (tgN 2) (tgCons (tgT 2 (tgCons (tgN 3) (tgCons (tgN 4) tgNil))) tgNil)))
def fb_gathered_1 : SM :=
  (gSeq (gAsg (eDGet2 true true (eVar 1) (eVar 2) (eCall gTup' (aCons true (eC (.int 0)) (aCons true (eC (.int 1)) aNil)))) (tgT 2 (tgCons (tgN 5) (tgCons (tgN 6) tgNil))))
  (gDPut 1 (oFr (eCall (gCallF m_lowest) (aCons true (eBin gAddX true (eBin gMulX true (eVar 5) (eVar 4)) (eBin gMulX true (eVar 3) (eVar 6))) (aCons true (eBin gMulX true (eVar 6) (eVar 4)) aNil)))) (eVar 2)))
def ce_gathered_1 : EV := (eCall gTup' (aCons true (eVar 2) (aCons true (eBin gDGet true (eVar 1) (eVar 2)) aNil)))
def mb_gathered : SM :=
  (gSeq (gSet 1 eNewK)
  (gSeq (gFor [3, 4, 5, 6] (iSeq (eVar 0)) fg_gathered_1 fb_gathered_1)
  (gRet (eCall (g1 gTuple) (aCons true (eLc [2] (iSeq (oFr (eCall (g1 gSortK) (aCons true (eVar 1) aNil)))) (tgN 2) (bOf (eBin gNe true (eBin gIx true (eBin gDGet true (eVar 1) (eVar 2)) (eC (.int 0))) (eC (.int 0)))) ce_gathered_1) aNil)))))
def m_gathered : Mir := fnM 1 7 mb_gathered
theorem ok_gathered {f : Addr} {fd : FuncData} (F : Fun K "gathered" "gathered" s_gathered f fd) (G_lowest : Fd P w K mg base 1 "lowest" m_lowest) (z_sorted : mg "sorted" = none) (z_tuple : mg "tuple" = none) : FnG P w K mg base 2 f fd ["terms"] (spF K m_gathered) :=
  have nd := sc_gathered.nd
  fn_ok F sc_gathered (by decide) fun cdv A outer s H E hgd hr => by
    unfold mb_gathered
    exact (s_cons (s_set nd rfl (.inr rfl) d_newK)
  (s_cons (s_for [3, 4, 5, 6] PassesOwn.never rfl (i_seq (d_var 0 (pv 0))) (g_tup rfl (gs_cons (g_name 2 nd rfl (.inl rfl)) (gs_cons (g_tup rfl (gs_cons (g_name 3 nd rfl (.inl rfl)) (gs_cons (g_name 4 nd rfl (.inl rfl)) gs_nil))) gs_nil)))
  (s_cons (s_asg (d_dget2 hr (d_var 1 (pv 1)) (d_var 2 (pv 2)) (d_tup (a_cons (d_int).x (a_cons (d_int).x a_nil))).x).x (g_tup rfl (gs_cons (g_name 5 nd rfl (.inl rfl)) (gs_cons (g_name 6 nd rfl (.inl rfl)) gs_nil))))
  (s_one (s_dput 1 hr (pv 1) (d_var 2 (pv 2)) ((d_call G_lowest hgd hr (a_cons ((d_add (d_mul (d_var 5 (pv 5)) (d_var 4 (pv 4))).x (d_mul (d_var 3 (pv 3)) (d_var 6 (pv 6))).x)).x (a_cons ((d_mul (d_var 6 (pv 6)) (d_var 4 (pv 4)))).x a_nil)))).fr))))
  (s_one (s_ret (d_tuple (d_lc (own := [("power", 2)]) rfl nd (i_seq (((d_sortK hr (by rfl) (d_var 1 (pv 1)) (by rfl) z_sorted)).fr).x) (blkOk_by (N := ["terms", "found", "power", "num", "den", "its", "part"]) (sc := defScope s_gathered) (by decide +kernel)) (by decide) (fun _ _ _ _ _ => (g_name 2 nd rfl (.inl rfl))) (fun _ _ _ _ _ => (ts_one (t_ne hr (d_item (d_dget hr (d_var 1 (pv 1)) (d_var 2 (pv 2))).x (d_int).x).x (d_int).x))) (fun _ _ _ _ _ => (d_tup (a_cons (d_var 2 (pv 2)) (a_cons ((d_dget hr (d_var 1 (pv 1)) (d_var 2 (pv 2)))).x a_nil))))).x (by rfl) z_tuple)))))
/-! ### total -/
abbrev s_total : Stmt := topS 9
theorem sc_total : FnScope ["numbers", "number", "one"] ["numbers"] (defScope s_total) := ⟨rfl, rfl, rfl, by decide +kernel, rfl, by decide +kernel, by decide +kernel⟩
def mb_total : SM :=
  (gRet (eCall (gCallF m_gathered) (aCons true (oFr (eLc2 [1, 2] [2] (iSeq (eVar 0)) (tgN 1) bYes (iSeq (eVar 1)) (tgN 2) bYes (oFz (eVar 2)))) aNil)))
def m_total : Mir := fnM 1 3 mb_total
theorem ok_total {f : Addr} {fd : FuncData} (F : Fun K "total" "total" s_total f fd) (G_gathered : Fd P w K mg base 2 "gathered" m_gathered) : FnG P w K mg base 3 f fd ["numbers"] (spF K m_total) :=
  have nd := sc_total.nd
  fn_ok F sc_total (by decide) fun cdv A outer s H E hgd hr => by
    unfold mb_total
    exact (s_one (s_ret (d_call G_gathered hgd hr (a_cons (((d_lc2 (vs1 := [2]) (own := [("number", 1), ("one", 2)]) rfl nd (i_seq (d_var 0 (pv 0))) (blkOk_by (N := ["numbers", "number", "one"]) (sc := defScope s_total) (by decide +kernel)) (by decide) (by decide) (by decide) (fun _ _ _ _ _ => (g_name 1 nd rfl (.inl rfl))) (fun _ _ _ _ _ => ts_nil) (fun _ _ _ _ _ => (i_seq (d_var 1 (pv 1)))) (fun _ _ _ _ _ => (g_name 2 nd rfl (.inl rfl))) (fun _ _ _ _ _ => ts_nil) (fun _ _ _ _ _ => (d_var 2 (pv 2)).fz))).fr).x a_nil))))
/-! ### times -/
abbrev s_times : Stmt := topS 10
theorem sc_times : FnScope ["one", "other", "found", "power", "num", "den", "its", "top", "part"] ["one", "other"] (defScope s_times) := ⟨rfl, rfl, rfl, by decide +kernel, rfl, by decide +kernel, by decide +kernel⟩
def ce_times_1 : EV := (eCall gTup' (aCons true (eBin gAddX true (eVar 3) (eVar 6)) (aCons true (oFr (eCall (gCallF m_lowest) (aCons true (eBin gMulX true (eVar 4) (eVar 7)) (aCons true (eBin gMulX true (eVar 5) (eVar 8)) aNil)))) aNil)))
def fg_times_1 : GV := (tgT 2 (tgCons (tgN 3) (tgCons (tgT 2 (tgCons (tgN 4) (tgCons (tgN 5) tgNil))) tgNil)))
def fb_times_1 : SM :=
  (gExt 2 (eLc [6, 7, 8] (iSeq (eVar 1)) (tgT 2 (tgCons (tgN 6) (tgCons (tgT 2 (tgCons (tgN 7) (tgCons (tgN 8) tgNil))) tgNil))) bYes ce_times_1))
def mb_times : SM :=
  (gSeq (gSet 2 (eCall gLst' aNil))
  (gSeq (gFor [3, 4, 5] (iSeq (eVar 0)) fg_times_1 fb_times_1)
  (gRet (eCall (gCallF m_gathered) (aCons true (eMov 2) aNil)))))
def m_times : Mir := fnM 2 9 mb_times
theorem ok_times {f : Addr} {fd : FuncData} (F : Fun K "times" "times" s_times f fd) (G_lowest : Fd P w K mg base 1 "lowest" m_lowest) (G_gathered : Fd P w K mg base 2 "gathered" m_gathered) : FnG P w K mg base 3 f fd ["one", "other"] (spF K m_times) :=
  have nd := sc_times.nd
  fn_ok F sc_times (by decide) fun cdv A outer s H E hgd hr => by
    unfold mb_times
    exact (s_cons (s_set nd rfl (.inl rfl) (d_lst a_nil))
  (s_cons (s_for [3, 4, 5] PassesOwn.never rfl (i_seq (d_var 0 (pv 0))) (g_tup rfl (gs_cons (g_name 3 nd rfl (.inr rfl)) (gs_cons (g_tup rfl (gs_cons (g_name 4 nd rfl (.inr rfl)) (gs_cons (g_name 5 nd rfl (.inr rfl)) gs_nil))) gs_nil)))
  (s_one (s_ext 2 (pv 2) (d_lc (own := [("its", 6), ("top", 7), ("part", 8)]) rfl nd (i_seq (d_var 1 (pv 1))) (blkOk_by (N := ["one", "other", "found", "power", "num", "den", "its", "top", "part"]) (sc := defScope s_times) (by decide +kernel)) (by decide) (fun _ _ _ _ _ => (g_tup rfl (gs_cons (g_name 6 nd rfl (.inl rfl)) (gs_cons (g_tup rfl (gs_cons (g_name 7 nd rfl (.inl rfl)) (gs_cons (g_name 8 nd rfl (.inl rfl)) gs_nil))) gs_nil)))) (fun _ _ _ _ _ => ts_nil) (fun _ _ _ _ _ => (d_tup (a_cons ((d_add (d_var 3 (pv 3)) (d_var 6 (pv 6)))).x (a_cons (((d_call G_lowest hgd hr (a_cons ((d_mul (d_var 4 (pv 4)) (d_var 7 (pv 7)))).x (a_cons ((d_mul (d_var 5 (pv 5)) (d_var 8 (pv 8)))).x a_nil)))).fr).x a_nil))))).x)))
  (s_one (s_ret (d_call G_gathered hgd hr (a_cons ((d_mov 2 (pv 2))).x a_nil))))))
/-! ### matrix_of -/
abbrev s_matrix_of : Stmt := topS 12
theorem sc_matrix_of : FnScope ["table", "telling", "found", "sides", "right", "numbers", "number", "row", "unknown", "side", "one"] ["table", "telling"] (defScope s_matrix_of) := ⟨rfl, rfl, rfl, by decide +kernel, rfl, by decide +kernel, by decide +kernel⟩
def ce_matrix_of_1 : EV := (oFz (eVar 10))
def fg_matrix_of_1 : GV := (tgN 8)
def fb_matrix_of_1 : SM :=
  (gApp 7 (oFr (eCall (gCallF m_total) (aCons true (oFr (eLc [9, 10] (iZip true (eVar 3) (eVar 5)) (tgT 2 (tgCons (tgN 9) (tgCons (tgN 10) tgNil))) (bOf (eBin gEq true (eBin gIx true (eVar 9) (eC (.int 0))) (eVar 8))) ce_matrix_of_1)) aNil))))
def fg_matrix_of_2 : GV := (tgT 2 (tgCons (tgT 2 (tgCons (tgN 3) (tgCons (tgN 4) tgNil))) (tgCons (tgT 2 (tgCons (tgN 5) (tgCons (tgN 6) tgNil))) tgNil)))
def fb_matrix_of_2 : SM :=
  (gSeq (gSet 7 (eCall gLst' aNil))
  (gSeq (gFor [8] (iRange1 (eBin gIx true (eVar 0) (eC (.int 0)))) fg_matrix_of_1 fb_matrix_of_1)
  (gApp 2 (eMov 7))))
def mb_matrix_of : SM :=
  (gSeq (gSet 2 (eCall gLst' aNil))
  (gSeq (gFor [3, 4, 5, 6, 7, 8] (iZip true (eBin gIx true (eVar 0) (eC (.int 1))) (eVar 1)) fg_matrix_of_2 fb_matrix_of_2)
  (gRetV 2)))
def m_matrix_of : Mir := fnM 2 11 mb_matrix_of
theorem ok_matrix_of {f : Addr} {fd : FuncData} (F : Fun K "matrix_of" "matrix_of" s_matrix_of f fd) (G_total : Fd P w K mg base 3 "total" m_total) (z_range : mg "range" = none) (z_zip : mg "zip" = none) : FnG P w K mg base 4 f fd ["table", "telling"] (spF K m_matrix_of) :=
  have nd := sc_matrix_of.nd
  fn_ok F sc_matrix_of (by decide) fun cdv A outer s H E hgd hr => by
    unfold mb_matrix_of
    exact (s_cons (s_set nd rfl (.inl rfl) (d_lst a_nil))
  (s_cons (s_for [3, 4, 5, 6, 7, 8] PassesOwn.never rfl (i_zip (by rfl) z_zip ((d_item (d_var 0 (pv 0)) (d_int).x)).x (d_var 1 (pv 1))) (g_tup rfl (gs_cons (g_tup rfl (gs_cons (g_name 3 nd rfl (.inl rfl)) (gs_cons (g_name 4 nd rfl (.inl rfl)) gs_nil))) (gs_cons (g_tup rfl (gs_cons (g_name 5 nd rfl (.inl rfl)) (gs_cons (g_name 6 nd rfl (.inl rfl)) gs_nil))) gs_nil)))
  (s_cons (s_set nd rfl (.inl rfl) (d_lst a_nil))
  (s_cons (s_for [8] PassesOwn.never rfl (i_range1 (by rfl) z_range (d_item (d_var 0 (pv 0)) (d_int).x).x) (g_name 8 nd rfl (.inr rfl))
  (s_one (s_app 7 (pv 7) ((d_call G_total hgd hr (a_cons (((d_lc (own := [("side", 9), ("one", 10)]) rfl nd (i_zip (by rfl) z_zip (d_var 3 (pv 3)) (d_var 5 (pv 5))) (blkOk_by (N := ["table", "telling", "found", "sides", "right", "numbers", "number", "row", "unknown", "side", "one"]) (sc := defScope s_matrix_of) (by decide +kernel)) (by decide) (fun _ _ _ _ _ => (g_tup rfl (gs_cons (g_name 9 nd rfl (.inl rfl)) (gs_cons (g_name 10 nd rfl (.inl rfl)) gs_nil)))) (fun _ _ _ _ _ => (ts_one (t_eq hr (d_item (d_var 9 (pv 9)) (d_int).x).x (d_var 8 (pv 8))))) (fun _ _ _ _ _ => (d_var 10 (pv 10)).fz))).fr).x a_nil))).fr)))
  (s_one (s_app 2 (pv 2) (d_mov 7 (pv 7)))))))
  (s_one (s_retV 2 (pv 2)))))
/-! ### led_by_number -/
abbrev s_led_by_number : Stmt := topS 14
theorem sc_led_by_number : FnScope ["polynomial", "number", "one"] ["polynomial", "number"] (defScope s_led_by_number) := ⟨rfl, rfl, rfl, by decide +kernel, rfl, by decide +kernel, by decide +kernel⟩
def ce_led_by_number_1 : EV := (eCall (gCallF m_times) (aCons true (eVar 2) (aCons true (eVar 1) aNil)))
def mb_led_by_number : SM :=
  (gRet (eLc [2] (iSeq (eVar 0)) (tgN 2) bYes ce_led_by_number_1))
def m_led_by_number : Mir := fnM 2 3 mb_led_by_number
theorem ok_led_by_number {f : Addr} {fd : FuncData} (F : Fun K "led_by_number" "led_by_number" s_led_by_number f fd) (G_times : Fd P w K mg base 3 "times" m_times) : FnG P w K mg base 4 f fd ["polynomial", "number"] (spF K m_led_by_number) :=
  have nd := sc_led_by_number.nd
  fn_ok F sc_led_by_number (by decide) fun cdv A outer s H E hgd hr => by
    unfold mb_led_by_number
    exact (s_one (s_ret (d_lc (own := [("one", 2)]) rfl nd (i_seq (d_var 0 (pv 0))) (blkOk_by (N := ["polynomial", "number", "one"]) (sc := defScope s_led_by_number) (by decide +kernel)) (by decide) (fun _ _ _ _ _ => (g_name 2 nd rfl (.inl rfl))) (fun _ _ _ _ _ => ts_nil) (fun _ _ _ _ _ => (d_call G_times hgd hr (a_cons (d_var 2 (pv 2)) (a_cons (d_var 1 (pv 1)) a_nil)))))))
/-! ### added -/
abbrev s_added : Stmt := topS 15
theorem sc_added : FnScope ["one", "other", "left", "right"] ["one", "other"] (defScope s_added) := ⟨rfl, rfl, rfl, by decide +kernel, rfl, by decide +kernel, by decide +kernel⟩
def ce_added_1 : EV := (eCall (gCallF m_total) (aCons true (oFr (eCall gLst' (aCons true (eVar 2) (aCons true (eVar 3) aNil)))) aNil))
def mb_added : SM :=
  (gRet (eLc [2, 3] (iZip true (eVar 0) (eVar 1)) (tgT 2 (tgCons (tgN 2) (tgCons (tgN 3) tgNil))) bYes ce_added_1))
def m_added : Mir := fnM 2 4 mb_added
theorem ok_added {f : Addr} {fd : FuncData} (F : Fun K "added" "added" s_added f fd) (G_total : Fd P w K mg base 3 "total" m_total) (z_zip : mg "zip" = none) : FnG P w K mg base 4 f fd ["one", "other"] (spF K m_added) :=
  have nd := sc_added.nd
  fn_ok F sc_added (by decide) fun cdv A outer s H E hgd hr => by
    unfold mb_added
    exact (s_one (s_ret (d_lc (own := [("left", 2), ("right", 3)]) rfl nd (i_zip (by rfl) z_zip (d_var 0 (pv 0)) (d_var 1 (pv 1))) (blkOk_by (N := ["one", "other", "left", "right"]) (sc := defScope s_added) (by decide +kernel)) (by decide) (fun _ _ _ _ _ => (g_tup rfl (gs_cons (g_name 2 nd rfl (.inl rfl)) (gs_cons (g_name 3 nd rfl (.inl rfl)) gs_nil)))) (fun _ _ _ _ _ => ts_nil) (fun _ _ _ _ _ => (d_call G_total hgd hr (a_cons (((d_lst (a_cons (d_var 2 (pv 2)) (a_cons (d_var 3 (pv 3)) a_nil)))).fr).x a_nil))))))
/-! ### times_entry -/
abbrev s_times_entry : Stmt := topS 16
theorem sc_times_entry : FnScope ["polynomial", "number", "is_own", "found"] ["polynomial", "number", "is_own"] (defScope s_times_entry) := ⟨rfl, rfl, rfl, by decide +kernel, rfl, by decide +kernel, by decide +kernel⟩
def mb_times_entry : SM :=
  (gSeq (gSet 3 (oFr (eCall gLst' (aStar (eCall (gCallF m_led_by_number) (aCons true (eVar 0) (aCons true (eVar 1) aNil))) (aCons true (eCall gTup' aNil) aNil)))))
  (gSeq (gIf (bNot (bOf (oFz (eVar 2))))
  (gRet (oFz (eVar 3)))
  gNx)
  (gRet (eCall (gCallF m_added) (aCons true (eVar 3) (aCons true (oFr (eCall gLst' (aCons true (eCall gTup' aNil) (aStar (eCall (gCallF m_led_by_number) (aCons true (eVar 0) (aCons true (oFr (eCall (gCallF m_term) (aCons true (eC (.int 0)) (aCons true (eCall gTup' (aCons true (eUn gNeg (eC (.int 1))) (aCons true (eC (.int 1)) aNil))) aNil)))) aNil))) aNil)))) aNil))))))
def m_times_entry : Mir := fnM 3 4 mb_times_entry
theorem ok_times_entry {f : Addr} {fd : FuncData} (F : Fun K "times_entry" "times_entry" s_times_entry f fd) (G_term : Fd P w K mg base 1 "term" m_term) (G_led_by_number : Fd P w K mg base 4 "led_by_number" m_led_by_number) (G_added : Fd P w K mg base 4 "added" m_added) : FnG P w K mg base 5 f fd ["polynomial", "number", "is_own"] (spF K m_times_entry) :=
  have nd := sc_times_entry.nd
  fn_ok F sc_times_entry (by decide) fun cdv A outer s H E hgd hr => by
    unfold mb_times_entry
    exact (s_cons (s_set nd rfl (.inl rfl) ((d_lst (a_star (d_call G_led_by_number hgd hr (a_cons (d_var 0 (pv 0)) (a_cons (d_var 1 (pv 1)) a_nil))).x (a_cons ((d_tup a_nil)).x a_nil)))).fr)
  (s_cons (s_if (t_not (t_val (d_var 2 (pv 2)).fz))
  (s_one (s_ret (d_var 3 (pv 3)).fz))
  s_nil)
  (s_one (s_ret (d_call G_added hgd hr (a_cons (d_var 3 (pv 3)) (a_cons (((d_lst (a_cons ((d_tup a_nil)).x (a_star (d_call G_led_by_number hgd hr (a_cons (d_var 0 (pv 0)) (a_cons (((d_call G_term hgd hr (a_cons (d_int).x (a_cons ((d_tup (a_cons ((d_neg (d_int).x)).x (a_cons (d_int).x a_nil)))).x a_nil)))).fr).x a_nil))).x a_nil)))).fr).x a_nil)))))))
/-! ### polynomial_of -/
abbrev s_polynomial_of : Stmt := topS 17
theorem sc_polynomial_of : FnScope ["table", "telling", "found", "index", "row", "later", "columns", "polynomial", "column", "number", "behind", "sign", "led", "key", "other"] ["table", "telling"] (defScope s_polynomial_of) := ⟨rfl, rfl, rfl, by decide +kernel, rfl, by decide +kernel, by decide +kernel⟩
def ce_polynomial_of_1 : EV := (oFz (eVar 14))
def fg_polynomial_of_1 : GV := (tgT 2 (tgCons (tgN 8) (tgCons (tgN 9) tgNil)))
def fb_polynomial_of_1 : SM :=
  (gIf (bOf (eBin (gIn true) true (eVar 8) (eVar 6)))
  (gSeq (gSet 10 (eCall (g1 gLen) (aCons true (eLc [14] (iSeq (eVar 6)) (tgN 14) (bOf (eBin gGt true (eVar 14) (eVar 8))) ce_polynomial_of_1) aNil)))
  (gSeq (gSet 11 (oFr (eCall (gCallF m_term) (aCons true (eC (.int 0)) (aCons true (eCall gTup' (aCons true (eBin gSub true (eC (.int 1)) (eBin gMulX true (eC (.int 2)) (eBin gMod true (eVar 10) (eC (.int 2))))) (aCons true (eC (.int 1)) aNil))) aNil)))))
  (gSeq (gSet 12 (eCall (gCallF m_led_by_number) (aCons true (oFr (eCall (gCallF m_times_entry) (aCons true (eVar 7) (aCons true (eVar 9) (aCons true (eBin gEq true (eVar 8) (eVar 3)) aNil))))) (aCons true (eVar 11) aNil))))
  (gSeq (gSet 13 (eCall (g1 gTuple) (aCons true (eCall (g1 gSortL) (aCons true (eCall gLst' (aStar (eVar 6) (aCons true (eVar 8) aNil))) aNil)) aNil)))
  (gDPut 5 (eIf (bOf (eBin (gDIn false) true (eVar 13) (eVar 5))) (eCall (gCallN m_added) (aCons true (eDGetX true (eVar 5) (eVar 13)) (aCons true (eVar 12) aNil))) (eTake 12)) (eVar 13))))))
  gNx)
def fg_polynomial_of_2 : GV := (tgT 2 (tgCons (tgN 6) (tgCons (tgN 7) tgNil)))
def fb_polynomial_of_2 : SM :=
  (gFor [8, 9, 10, 11, 12, 13] (iEnum' (eVar 4)) fg_polynomial_of_1 fb_polynomial_of_1)
def fg_polynomial_of_3 : GV := (tgT 2 (tgCons (tgN 3) (tgCons (tgN 4) tgNil)))
def fb_polynomial_of_3 : SM :=
  (gSeq (gSet 5 eNewT)
  (gSeq (gFor [6, 7, 8, 9, 10, 11, 12, 13] (iItM 2) fg_polynomial_of_2 fb_polynomial_of_2)
  (gMove 2 5)))
def mb_polynomial_of : SM :=
  (gSeq (gIf (bOf (eBin gNe true (eCall (g1 gLen) (aCons true (eBin gIx true (eVar 0) (eC (.int 1))) aNil)) (eBin gIx true (eVar 0) (eC (.int 0)))))
  gNo
  gNx)
  (gSeq (gSet 2 (eDisp1T (eCall gTup' aNil) (eCall gLst' (aCons true (oFr (eCall (gCallF m_term) (aCons true (eC (.int 0)) (aCons true (eCall gTup' (aCons true (eC (.int 1)) (aCons true (eC (.int 1)) aNil))) aNil)))) aNil))))
  (gSeq (gFor [3, 4, 5, 6, 7, 8, 9, 10, 11, 12, 13] (iEnum' (oFr (eCall (gCallF m_matrix_of) (aCons true (eVar 0) (aCons true (eVar 1) aNil))))) fg_polynomial_of_3 fb_polynomial_of_3)
  (gRetD 2 (gTR (eBin gIx true (eVar 0) (eC (.int 0))))))))
def m_polynomial_of : Mir := fnM 2 15 mb_polynomial_of
theorem ok_polynomial_of {f : Addr} {fd : FuncData} (F : Fun K "polynomial_of" "polynomial_of" s_polynomial_of f fd) (G_term : Fd P w K mg base 1 "term" m_term) (G_matrix_of : Fd P w K mg base 4 "matrix_of" m_matrix_of) (G_led_by_number : Fd P w K mg base 4 "led_by_number" m_led_by_number) (G_added : Fd P w K mg base 4 "added" m_added) (G_times_entry : Fd P w K mg base 5 "times_entry" m_times_entry) (z_enumerate : mg "enumerate" = none) (z_len : mg "len" = none) (z_range : mg "range" = none) (z_sorted : mg "sorted" = none) (z_tuple : mg "tuple" = none) : FnG P w K mg base 6 f fd ["table", "telling"] (spF K m_polynomial_of) :=
  have nd := sc_polynomial_of.nd
  fn_ok F sc_polynomial_of (by decide) fun cdv A outer s H E hgd hr => by
    unfold mb_polynomial_of
    exact (s_cons (s_if (t_ne hr (d_len (d_item (d_var 0 (pv 0)) (d_int).x).x (by rfl) z_len).x (d_item (d_var 0 (pv 0)) (d_int).x).x)
  (s_one s_never)
  s_nil)
  (s_cons (s_set nd rfl (.inl rfl) (d_disp1T hr (d_tup a_nil).x (d_lst (a_cons (((d_call G_term hgd hr (a_cons (d_int).x (a_cons ((d_tup (a_cons (d_int).x (a_cons (d_int).x a_nil)))).x a_nil)))).fr).x a_nil))))
  (s_cons (s_for [3, 4, 5, 6, 7, 8, 9, 10, 11, 12, 13] PassesOwn.never rfl (i_enum (by rfl) z_enumerate (((d_call G_matrix_of hgd hr (a_cons (d_var 0 (pv 0)) (a_cons (d_var 1 (pv 1)) a_nil)))).fr).x) (g_tup rfl (gs_cons (g_name 3 nd rfl (.inl rfl)) (gs_cons (g_name 4 nd rfl (.inl rfl)) gs_nil)))
  (s_cons (s_set nd rfl (.inl rfl) d_newT)
  (s_cons (s_for [6, 7, 8, 9, 10, 11, 12, 13] PassesOwn.never rfl (i_items 2 (pv 2)) (g_tup rfl (gs_cons (g_name 6 nd rfl (.inl rfl)) (gs_cons (g_name 7 nd rfl (.inl rfl)) gs_nil)))
  (s_one (s_for [8, 9, 10, 11, 12, 13] PassesOwn.never rfl (i_enum (by rfl) z_enumerate (d_var 4 (pv 4))) (g_tup rfl (gs_cons (g_name 8 nd rfl (.inr rfl)) (gs_cons (g_name 9 nd rfl (.inl rfl)) gs_nil)))
  (s_one (s_if (t_notIn (d_var 8 (pv 8)) (d_var 6 (pv 6)))
  (s_cons (s_set nd rfl (.inl rfl) (d_len (d_lc (own := [("other", 14)]) rfl nd (i_seq (d_var 6 (pv 6))) (blkOk_by (N := ["table", "telling", "found", "index", "row", "later", "columns", "polynomial", "column", "number", "behind", "sign", "led", "key", "other"]) (sc := defScope s_polynomial_of) (by decide +kernel)) (by decide) (fun _ _ _ _ _ => (g_name 14 nd rfl (.inl rfl))) (fun _ _ _ _ _ => (ts_one (t_gt (d_var 14 (pv 14)) (d_var 8 (pv 8))))) (fun _ _ _ _ _ => (d_var 14 (pv 14)).fz)).x (by rfl) z_len))
  (s_cons (s_set nd rfl (.inl rfl) ((d_call G_term hgd hr (a_cons (d_int).x (a_cons ((d_tup (a_cons ((d_sub (d_int).x (d_mul (d_int).x (d_mod (d_var 10 (pv 10)) (d_int).x).x).x)).x (a_cons (d_int).x a_nil)))).x a_nil)))).fr)
  (s_cons (s_set nd rfl (.inl rfl) (d_call G_led_by_number hgd hr (a_cons (((d_call G_times_entry hgd hr (a_cons (d_var 7 (pv 7)) (a_cons (d_var 9 (pv 9)) (a_cons ((d_eq hr (d_var 8 (pv 8)) (d_var 3 (pv 3)))).x a_nil))))).fr).x (a_cons (d_var 11 (pv 11)) a_nil))))
  (s_cons (s_set nd rfl (.inl rfl) (d_tuple (d_sortL hr (d_lst (a_star (d_var 6 (pv 6)) (a_cons (d_var 8 (pv 8)) a_nil))).x (by rfl) z_sorted).x (by rfl) z_tuple))
  (s_one (s_dput 5 hr (pv 5) (d_var 13 (pv 13)) (d_if (t_din hr (d_var 13 (pv 13)) (d_var 5 (pv 5))) (d_callN G_added hgd hr (a_cons (d_dgetX hr (d_var 5 (pv 5)) (d_var 13 (pv 13))) (a_cons (d_var 12 (pv 12)) a_nil))) (d_take 12 (pv 12)))))))))
  s_nil)))))
  (s_one (s_move 5 nd rfl (.inl rfl) (pv 5))))))
  (s_one (s_retD 2 hr (pv 2) (d_tupleR (d_item (d_var 0 (pv 0)) (d_int).x).x (by rfl) (by rfl) z_tuple (by rfl) z_range).x)))))
/-! ### roots_above -/
abbrev s_roots_above : Stmt := topS 18
theorem sc_roots_above : FnScope ["polynomial", "s", "found", "index", "number", "order", "height"] ["polynomial", "s"] (defScope s_roots_above) := ⟨rfl, rfl, rfl, by decide +kernel, rfl, by decide +kernel, by decide +kernel⟩
def fg_roots_above_1 : GV := (tgT 2 (tgCons (tgN 3) (tgCons (tgN 4) tgNil)))
def fb_roots_above_1 : SM :=
  (gSeq (gSet 5 (oFr (eCall (gCallF m_order_of) (aCons true (eVar 4) aNil))))
  (gIf (bOf (eBin gNotN true (eVar 5) (eC .none)))
  (gSeq (gSet 6 (eBin gAddX true (eBin gMulX true (eVar 5) (eBin gIx true (eVar 1) (eC (.int 1)))) (eBin gMulX true (eVar 3) (eBin gIx true (eVar 1) (eC (.int 0))))))
  (gIf (bOr (bOf (eBin gIsN true (eVar 2) (eC .none))) (bOf (eBin gLt true (eVar 6) (eBin gIx true (eVar 2) (eC (.int 0))))))
  (gSet 2 (eCall gTup' (aCons true (eVar 6) (aCons true (eVar 3) aNil))))
  gNx))
  gNx))
def mb_roots_above : SM :=
  (gSeq (gSet 2 (eC .none))
  (gSeq (gFor [3, 4, 5, 6] (iEnum' (eVar 0)) fg_roots_above_1 fb_roots_above_1)
  (gRet (eBin gIx true (eVar 2) (eC (.int 1))))))
def m_roots_above : Mir := fnM 2 7 mb_roots_above
theorem ok_roots_above {f : Addr} {fd : FuncData} (F : Fun K "roots_above" "roots_above" s_roots_above f fd) (G_order_of : Fd P w K mg base 1 "order_of" m_order_of) (z_enumerate : mg "enumerate" = none) : FnG P w K mg base 2 f fd ["polynomial", "s"] (spF K m_roots_above) :=
  have nd := sc_roots_above.nd
  fn_ok F sc_roots_above (by decide) fun cdv A outer s H E hgd hr => by
    unfold mb_roots_above
    exact (s_cons (s_set nd rfl (.inl rfl) d_non)
  (s_cons (s_for [3, 4, 5, 6] PassesOwn.never rfl (i_enum (by rfl) z_enumerate (d_var 0 (pv 0))) (g_tup rfl (gs_cons (g_name 3 nd rfl (.inl rfl)) (gs_cons (g_name 4 nd rfl (.inl rfl)) gs_nil)))
  (s_cons (s_set nd rfl (.inl rfl) ((d_call G_order_of hgd hr (a_cons (d_var 4 (pv 4)) a_nil))).fr)
  (s_one (s_if (t_notN (d_var 5 (pv 5)) (d_non).x)
  (s_cons (s_set nd rfl (.inl rfl) (d_add (d_mul (d_var 5 (pv 5)) (d_item (d_var 1 (pv 1)) (d_int).x).x).x (d_mul (d_var 3 (pv 3)) (d_item (d_var 1 (pv 1)) (d_int).x).x).x))
  (s_one (s_if (w_or (t_isN (d_var 2 (pv 2)) (d_non).x) (w_or1 (t_lt (d_var 6 (pv 6)) (d_item (d_var 2 (pv 2)) (d_int).x).x))).t
  (s_one (s_set nd rfl (.inl rfl) (d_tup (a_cons (d_var 6 (pv 6)) (a_cons (d_var 3 (pv 3)) a_nil)))))
  s_nil)))
  s_nil))))
  (s_one (s_ret (d_item (d_var 2 (pv 2)) (d_int).x)))))
/-! ### _law_bag -/
abbrev s__law_bag : Stmt := topS 20
theorem sc__law_bag : FnScope ["_law_script", "_law_cell"] ["_law_script"] (defScope s__law_bag) := ⟨rfl, rfl, rfl, by decide +kernel, rfl, by decide +kernel, by decide +kernel⟩
def ce__law_bag_1 : EV := (eCall (g1 gAbs) (aCons true (eVar 1) aNil))
def mb__law_bag : SM :=
  (gRet (eCall gLst' (aCons false (eC (.int 0)) (aCons false (eC (.int 1234567891)) (aCons false (eC (.int 0)) (aCons true (oFr (eLc [1] (iSeq (oFr (eSl true true (eVar 0) pNo (pSo (eC (.int 63)))))) (tgN 1) bYes ce__law_bag_1)) aNil))))))
def m__law_bag : Mir := fnM 1 2 mb__law_bag
theorem ok__law_bag {f : Addr} {fd : FuncData} (F : Fun K "_law_bag" "_law_bag" s__law_bag f fd) (z_abs : mg "abs" = none) : FnG P w K mg base 1 f fd ["_law_script"] (spF K m__law_bag) :=
  have nd := sc__law_bag.nd
  fn_ok F sc__law_bag (by decide) fun cdv A outer s H E hgd hr => by
    unfold mb__law_bag
    exact (s_one (s_ret (d_lst (a_cons (d_int).x (a_cons (d_int).x (a_cons (d_int).x (a_cons (((d_lc (own := [("_law_cell", 1)]) rfl nd (i_seq (((d_slice (d_var 0 (pv 0)) p_none (p_some (d_int).x))).fr).x) (blkOk_by (N := ["_law_script", "_law_cell"]) (sc := defScope s__law_bag) (by decide +kernel)) (by decide) (fun _ _ _ _ _ => (g_name 1 nd rfl (.inl rfl))) (fun _ _ _ _ _ => ts_nil) (fun _ _ _ _ _ => (d_abs (d_var 1 (pv 1)) (by rfl) z_abs)))).fr).x a_nil)))))))
/-! ### _law_take -/
abbrev s__law_take : Stmt := topS 21
theorem sc__law_take : FnScope ["_law_bag_here", "_law_many", "_law_cell", "_law_stirred", "_law_value", "_law_begin", "_law_second"] ["_law_bag_here", "_law_many"] (defScope s__law_take) := ⟨rfl, rfl, rfl, by decide +kernel, rfl, by decide +kernel, by decide +kernel⟩
def mb__law_take : SM :=
  (gSeq (gIf (bOf (eBin gEq true (eBin gIx true (eVar 0) (eC (.int 0))) (eC (.int 0))))
  (gSeq (gSet 2 (eBin gIx true (eBin gAddX true (eSl true true (eBin gIx true (eVar 0) (eC (.int 3))) (pSo (eBin gIx true (eVar 0) (eC (.int 2)))) pNo) (eCall gLst' (aCons true (eC (.int 0)) aNil))) (eC (.int 0))))
  (gSeq (gAugIx (fun i j => i + j) 0 (eC (.int 2)) (eC (.int 1)))
  (gSeq (gIf (bOf (eBin gGe true (eVar 2) (eBin gPow true (eC (.int 10)) (eC (.int 18)))))
  (gPutIx 0 (oFz (eVar 2)) (eC (.int 0)))
  gNx)
  (gSeq (gSet 3 (eBin gAddX true (eBin gAddX true (eBin gMulX true (eBin gIx true (eVar 0) (eC (.int 1))) (eC (.int 48271))) (eBin gMod true (eCall (g1 gInt) (aCons true (eVar 2) aNil)) (eC (.int 2147483647)))) (eBin gMulX true (eC (.int 7919)) (eBin gIx true (eVar 0) (eC (.int 2))))))
  (gPutIx 0 (eBin gMod true (eCall (g1 gInt) (aCons true (eVar 3) aNil)) (eC (.int 2147483647))) (eC (.int 1)))))))
  gNx)
  (gSeq (gIf (bOf (eBin gGt true (eBin gIx true (eVar 0) (eC (.int 0))) (eC (.int 0))))
  (gSeq (gSet 4 (eBin gMod true (eCall (g1 gInt) (aCons true (eBin gIx true (eVar 0) (eC (.int 0))) aNil)) (eVar 1)))
  (gSeq (gPutIx 0 (eBin gDiv true (eCall (g1 gInt) (aCons true (eBin gIx true (eVar 0) (eC (.int 0))) aNil)) (eVar 1)) (eC (.int 0)))
  (gRet (oFz (eVar 4)))))
  gNx)
  (gSeq (gSet 5 (eBin gMod true (eCall (g1 gInt) (aCons true (eBin gMulX true (eBin gAddX true (eBin gIx true (eVar 0) (eC (.int 1))) (eC (.int 1))) (eC (.int 39373))) aNil)) (eC (.int 1000000007))))
  (gSeq (gSet 6 (eBin gMod true (eCall (g1 gInt) (aCons true (eBin gMulX true (eBin gMod true (eCall (g1 gInt) (aCons true (eBin gMulX true (eVar 5) (eVar 5)) aNil)) (eC (.int 998244353))) (eC (.int 30011))) aNil)) (eC (.int 998244353))))
  (gRet (eBin gMod true (eCall (g1 gInt) (aCons true (eBin gDiv true (eVar 6) (eC (.int 7))) aNil)) (eVar 1)))))))
def m__law_take : Mir := fnM 2 7 mb__law_take
theorem ok__law_take {f : Addr} {fd : FuncData} (F : Fun K "_law_take" "_law_take" s__law_take f fd) (z_int : mg "int" = none) : FnG P w K mg base 1 f fd ["_law_bag_here", "_law_many"] (spF K m__law_take) :=
  have nd := sc__law_take.nd
  fn_ok F sc__law_take (by decide) fun cdv A outer s H E hgd hr => by
    unfold mb__law_take
    exact (s_cons (s_if (t_eq hr (d_item (d_var 0 (pv 0)) (d_int).x).x (d_int).x)
  (s_cons (s_set nd rfl (.inl rfl) (d_item (d_add (d_slice (d_item (d_var 0 (pv 0)) (d_int).x).x (p_some (d_item (d_var 0 (pv 0)) (d_int).x).x) p_none).x (d_lst (a_cons (d_int).x a_nil)).x).x (d_int).x))
  (s_cons (s_augIx 0 ip_add (pv 0) (d_int).x (d_int).x)
  (s_cons (s_if (t_ge (d_var 2 (pv 2)) (d_pow (d_int).x (d_int).x).x)
  (s_one (s_putIx 0 (pv 0) (d_int).x (d_var 2 (pv 2)).fz))
  s_nil)
  (s_cons (s_set nd rfl (.inl rfl) (d_add (d_add (d_mul (d_item (d_var 0 (pv 0)) (d_int).x).x (d_int).x).x (d_mod (d_int1 (d_var 2 (pv 2)) (by rfl) z_int).x (d_int).x).x).x (d_mul (d_int).x (d_item (d_var 0 (pv 0)) (d_int).x).x).x))
  (s_one (s_putIx 0 (pv 0) (d_int).x (d_mod (d_int1 (d_var 3 (pv 3)) (by rfl) z_int).x (d_int).x)))))))
  s_nil)
  (s_cons (s_if (t_gt (d_item (d_var 0 (pv 0)) (d_int).x).x (d_int).x)
  (s_cons (s_set nd rfl (.inl rfl) (d_mod (d_int1 (d_item (d_var 0 (pv 0)) (d_int).x).x (by rfl) z_int).x (d_var 1 (pv 1))))
  (s_cons (s_putIx 0 (pv 0) (d_int).x (d_fdiv (d_int1 (d_item (d_var 0 (pv 0)) (d_int).x).x (by rfl) z_int).x (d_var 1 (pv 1))))
  (s_one (s_ret (d_var 4 (pv 4)).fz))))
  s_nil)
  (s_cons (s_set nd rfl (.inl rfl) (d_mod (d_int1 (d_mul (d_add (d_item (d_var 0 (pv 0)) (d_int).x).x (d_int).x).x (d_int).x).x (by rfl) z_int).x (d_int).x))
  (s_cons (s_set nd rfl (.inl rfl) (d_mod (d_int1 (d_mul (d_mod (d_int1 (d_mul (d_var 5 (pv 5)) (d_var 5 (pv 5))).x (by rfl) z_int).x (d_int).x).x (d_int).x).x (by rfl) z_int).x (d_int).x))
  (s_one (s_ret (d_mod (d_int1 (d_fdiv (d_var 6 (pv 6)) (d_int).x).x (by rfl) z_int).x (d_var 1 (pv 1)))))))))
/-! ### _law_some -/
abbrev s__law_some : Stmt := topS 22
theorem sc__law_some : FnScope ["_law_bag_here", "_law_things"] ["_law_bag_here", "_law_things"] (defScope s__law_some) := ⟨rfl, rfl, rfl, by decide +kernel, rfl, by decide +kernel, by decide +kernel⟩
def mb__law_some : SM :=
  (gRet (eBin gIx false (eVar 1) (eIo m__law_take 0 (qIo 0 (qFz (eCall (g1 gLen) (aCons true (eVar 1) aNil)) qNil)))))
def m__law_some : Mir := fnM 2 2 mb__law_some
theorem ok__law_some {f : Addr} {fd : FuncData} (F : Fun K "_law_some" "_law_some" s__law_some f fd) (G__law_take : Fd P w K mg base 1 "_law_take" m__law_take) (z_len : mg "len" = none) : FnG P w K mg base 2 f fd ["_law_bag_here", "_law_things"] (spF K m__law_some) :=
  have nd := sc__law_some.nd
  fn_ok F sc__law_some (by decide) fun cdv A outer s H E hgd hr => by
    unfold mb__law_some
    exact (s_one (s_ret (d_item (d_var 1 (pv 1)) (d_callIo 0 G__law_take hgd hr (q_io (pv 0) (q_fz ((d_len (d_var 1 (pv 1)) (by rfl) z_len)).x q_nil))).x)))
/-! ### _law_mixed -/
abbrev s__law_mixed : Stmt := topS 23
theorem sc__law_mixed : FnScope ["_law_bag_here", "_law_things", "_law_found", "_law_thing"] ["_law_bag_here", "_law_things"] (defScope s__law_mixed) := ⟨rfl, rfl, rfl, by decide +kernel, rfl, by decide +kernel, by decide +kernel⟩
def fg__law_mixed_1 : GV := (tgN 3)
def fb__law_mixed_1 : SM :=
  (gIns 2 (eIo m__law_take 0 (qIo 0 (qFz (eBin gAddX true (eCall (g1 gLen) (aCons true (eVar 2) aNil)) (eC (.int 1))) qNil))) (oFz (eVar 3)))
def mb__law_mixed : SM :=
  (gSeq (gSet 2 (eCall gLst' aNil))
  (gSeq (gFor [3] (iSeq (eVar 1)) fg__law_mixed_1 fb__law_mixed_1)
  (gRetV 2)))
def m__law_mixed : Mir := fnM 2 4 mb__law_mixed
theorem ok__law_mixed {f : Addr} {fd : FuncData} (F : Fun K "_law_mixed" "_law_mixed" s__law_mixed f fd) (G__law_take : Fd P w K mg base 1 "_law_take" m__law_take) (z_len : mg "len" = none) : FnG P w K mg base 2 f fd ["_law_bag_here", "_law_things"] (spF K m__law_mixed) :=
  have nd := sc__law_mixed.nd
  fn_ok F sc__law_mixed (by decide) fun cdv A outer s H E hgd hr => by
    unfold mb__law_mixed
    exact (s_cons (s_set nd rfl (.inl rfl) (d_lst a_nil))
  (s_cons (s_for [3] PassesOwn.never rfl (i_seq (d_var 1 (pv 1))) (g_name 3 nd rfl (.inl rfl))
  (s_one (s_ins 2 (pv 2) (d_callIo 0 G__law_take hgd hr (q_io (pv 0) (q_fz ((d_add (d_len (d_var 2 (pv 2)) (by rfl) z_len).x (d_int).x)).x q_nil))).x (d_var 3 (pv 3)).fz)))
  (s_one (s_retV 2 (pv 2)))))
/-! ### _law_alike -/
abbrev s__law_alike : Stmt := topS 24
theorem sc__law_alike : FnScope ["_law_found", "_law_due"] ["_law_found", "_law_due"] (defScope s__law_alike) := ⟨rfl, rfl, rfl, by decide +kernel, rfl, by decide +kernel, by decide +kernel⟩
def mb__law_alike : SM :=
  (gRet (eAnd (eBin gEq true (eVar 0) (eVar 1)) (eBin gEq true (eCall (g1 gRepr) (aCons true (eVar 0) aNil)) (eCall (g1 gRepr) (aCons true (eVar 1) aNil)))))
def m__law_alike : Mir := fnM 2 2 mb__law_alike
theorem ok__law_alike {f : Addr} {fd : FuncData} (F : Fun K "_law_alike" "_law_alike" s__law_alike f fd) (z_repr : mg "repr" = none) : FnG P w K mg base 1 f fd ["_law_found", "_law_due"] (spF K m__law_alike) :=
  have nd := sc__law_alike.nd
  fn_ok F sc__law_alike (by decide) fun cdv A outer s H E hgd hr => by
    unfold mb__law_alike
    exact (s_one (s_ret (d_and (d_eq hr (d_var 0 (pv 0)) (d_var 1 (pv 1))) (d_one (d_eq hr (d_repr hgd hr (d_var 0 (pv 0)) (by rfl) z_repr).x (d_repr hgd hr (d_var 1 (pv 1)) (by rfl) z_repr).x)))))
/-! ### _law_greatest_divisor -/
abbrev s__law_greatest_divisor : Stmt := topS 25
theorem sc__law_greatest_divisor : FnScope ["_law_one", "_law_other"] ["_law_one", "_law_other"] (defScope s__law_greatest_divisor) := ⟨rfl, rfl, rfl, by decide +kernel, rfl, by decide +kernel, by decide +kernel⟩
noncomputable def fb__law_greatest_divisor_1 : SM :=
  (gPar 0 1 (oFz (eVar 1)) (eBin gSub true (eVar 0) (eBin gMulX true (eBin gDiv true (eVar 0) (eVar 1)) (eVar 1))))
noncomputable def mb__law_greatest_divisor : SM :=
  (gSeq (gWhile [] (bOf (eBin gGt true (eVar 1) (eC (.int 0)))) fb__law_greatest_divisor_1)
  (gRet (oFz (eVar 0))))
noncomputable def m__law_greatest_divisor : Mir := fnM 2 2 mb__law_greatest_divisor
theorem ok__law_greatest_divisor {f : Addr} {fd : FuncData} (F : Fun K "_law_greatest_divisor" "_law_greatest_divisor" s__law_greatest_divisor f fd) : FnG P w K mg base 1 f fd ["_law_one", "_law_other"] (spF K m__law_greatest_divisor) :=
  have nd := sc__law_greatest_divisor.nd
  fn_ok F sc__law_greatest_divisor (by decide) fun cdv A outer s H E hgd hr => by
    unfold mb__law_greatest_divisor
    exact (s_cons (s_while [] PassesOwn.never (t_gt (d_var 1 (pv 1)) (d_int).x)
  (s_one (s_par rfl nd rfl rfl (by decide) rfl rfl (d_var 1 (pv 1)).fz (d_sub (d_var 0 (pv 0)) (d_mul (d_fdiv (d_var 0 (pv 0)) (d_var 1 (pv 1))).x (d_var 1 (pv 1))).x))))
  (s_one (s_ret (d_var 0 (pv 0)).fz)))
/-! ### _law_fraction -/
abbrev s__law_fraction : Stmt := topS 26
theorem sc__law_fraction : FnScope ["_law_num", "_law_den", "_law_by"] ["_law_num", "_law_den"] (defScope s__law_fraction) := ⟨rfl, rfl, rfl, by decide +kernel, rfl, by decide +kernel, by decide +kernel⟩
noncomputable def mb__law_fraction : SM :=
  (gSeq (gSet 2 (oFr (eIf (bOf (eBin gGt true (eVar 1) (eC (.int 0)))) (oFr (eCall (gCallF m__law_greatest_divisor) (aCons true (eCall (g1 gAbs) (aCons true (eVar 0) aNil)) (aCons true (eCall (g1 gAbs) (aCons true (eVar 1) aNil)) aNil)))) (eUn gNeg (eCall (gCallF m__law_greatest_divisor) (aCons true (eCall (g1 gAbs) (aCons true (eVar 0) aNil)) (aCons true (eCall (g1 gAbs) (aCons true (eVar 1) aNil)) aNil)))))))
  (gRet (eCall gTup' (aCons true (eBin gDiv true (eVar 0) (eVar 2)) (aCons true (eBin gDiv true (eVar 1) (eVar 2)) aNil)))))
noncomputable def m__law_fraction : Mir := fnM 2 3 mb__law_fraction
theorem ok__law_fraction {f : Addr} {fd : FuncData} (F : Fun K "_law_fraction" "_law_fraction" s__law_fraction f fd) (G__law_greatest_divisor : Fd P w K mg base 1 "_law_greatest_divisor" m__law_greatest_divisor) (z_abs : mg "abs" = none) : FnG P w K mg base 2 f fd ["_law_num", "_law_den"] (spF K m__law_fraction) :=
  have nd := sc__law_fraction.nd
  fn_ok F sc__law_fraction (by decide) fun cdv A outer s H E hgd hr => by
    unfold mb__law_fraction
    exact (s_cons (s_set nd rfl (.inl rfl) ((d_if (t_gt (d_var 1 (pv 1)) (d_int).x) ((d_call G__law_greatest_divisor hgd hr (a_cons ((d_abs (d_var 0 (pv 0)) (by rfl) z_abs)).x (a_cons ((d_abs (d_var 1 (pv 1)) (by rfl) z_abs)).x a_nil)))).fr (d_neg (d_call G__law_greatest_divisor hgd hr (a_cons ((d_abs (d_var 0 (pv 0)) (by rfl) z_abs)).x (a_cons ((d_abs (d_var 1 (pv 1)) (by rfl) z_abs)).x a_nil))).x))).fr)
  (s_one (s_ret (d_tup (a_cons ((d_fdiv (d_var 0 (pv 0)) (d_var 2 (pv 2)))).x (a_cons ((d_fdiv (d_var 1 (pv 1)) (d_var 2 (pv 2)))).x a_nil))))))
/-! ### _law_factor -/
abbrev s__law_factor : Stmt := topS 27
theorem sc__law_factor : FnScope ["_law_bag_here"] ["_law_bag_here"] (defScope s__law_factor) := ⟨rfl, rfl, rfl, by decide +kernel, rfl, by decide +kernel, by decide +kernel⟩
noncomputable def mb__law_factor : SM :=
  (gRet (eCall (gCallF m__law_fraction) (aCons false (oFr (eIo m__law_some 0 (qIo 0 (qFz (oFr (eCall gLst' (aCons true (eC (.int 1)) (aCons true (eUn gNeg (eC (.int 1))) (aCons true (eC (.int 2)) (aCons true (eC (.int 3)) (aCons true (eUn gNeg (eC (.int 2))) (aCons true (eC (.int 5)) (aCons true (eUn gNeg (eC (.int 7))) (aCons true (eC (.int 1)) (aCons true (eC (.int 1)) aNil))))))))))) qNil)))) (aCons true (oFr (eIo m__law_some 0 (qIo 0 (qFz (oFr (eCall gLst' (aCons true (eC (.int 1)) (aCons true (eC (.int 1)) (aCons true (eC (.int 1)) (aCons true (eC (.int 2)) (aCons true (eC (.int 3)) (aCons true (eC (.int 10)) aNil)))))))) qNil)))) aNil))))
noncomputable def m__law_factor : Mir := fnM 1 1 mb__law_factor
theorem ok__law_factor {f : Addr} {fd : FuncData} (F : Fun K "_law_factor" "_law_factor" s__law_factor f fd) (G__law_some : Fd P w K mg base 2 "_law_some" m__law_some) (G__law_fraction : Fd P w K mg base 2 "_law_fraction" m__law_fraction) : FnG P w K mg base 3 f fd ["_law_bag_here"] (spF K m__law_factor) :=
  have nd := sc__law_factor.nd
  fn_ok F sc__law_factor (by decide) fun cdv A outer s H E hgd hr => by
    unfold mb__law_factor
    exact (s_one (s_ret (d_call G__law_fraction hgd hr (a_cons (((d_callIo 0 G__law_some hgd hr (q_io (pv 0) (q_fz (((d_lst (a_cons (d_int).x (a_cons ((d_neg (d_int).x)).x (a_cons (d_int).x (a_cons (d_int).x (a_cons ((d_neg (d_int).x)).x (a_cons (d_int).x (a_cons ((d_neg (d_int).x)).x (a_cons (d_int).x (a_cons (d_int).x a_nil))))))))))).fr).x q_nil)))).fr).x (a_cons (((d_callIo 0 G__law_some hgd hr (q_io (pv 0) (q_fz (((d_lst (a_cons (d_int).x (a_cons (d_int).x (a_cons (d_int).x (a_cons (d_int).x (a_cons (d_int).x (a_cons (d_int).x a_nil)))))))).fr).x q_nil)))).fr).x a_nil)))))
/-! ### _law_summed -/
abbrev s__law_summed : Stmt := topS 28
theorem sc__law_summed : FnScope ["_law_terms", "_law_found", "_law_power", "_law_num", "_law_den", "_law_one"] ["_law_terms"] (defScope s__law_summed) := ⟨rfl, rfl, rfl, by decide +kernel, rfl, by decide +kernel, by decide +kernel⟩
def fg__law_summed_1 : GV := (tgT 2 (tgCons (tgN 2) (tgCons (tgT 2 (tgCons (tgN 3) (tgCons (tgN 4) tgNil))) tgNil)))
noncomputable def fb__law_summed_1 : SM :=
  (gSeq (gSet 5 (eDGet2 true true (eVar 1) (eVar 2) (eCall gTup' (aCons true (eC (.int 0)) (aCons true (eC (.int 1)) aNil)))))
  (gDPut 1 (oFr (eCall (gCallF m__law_fraction) (aCons true (eBin gAddX true (eBin gMulX true (eBin gIx true (eVar 5) (eC (.int 0))) (eVar 4)) (eBin gMulX true (eVar 3) (eBin gIx true (eVar 5) (eC (.int 1))))) (aCons true (eBin gMulX true (eBin gIx true (eVar 5) (eC (.int 1))) (eVar 4)) aNil)))) (eVar 2)))
noncomputable def ce__law_summed_1 : EV := (eCall gTup' (aCons true (eVar 2) (aCons true (eBin gDGet true (eVar 1) (eVar 2)) aNil)))
noncomputable def mb__law_summed : SM :=
  (gSeq (gSet 1 eNewK)
  (gSeq (gFor [3, 4, 5] (iSeq (eVar 0)) fg__law_summed_1 fb__law_summed_1)
  (gRet (eCall (g1 gTuple) (aCons true (eLc [2] (iSeq (oFr (eCall (g1 gSortK) (aCons true (eVar 1) aNil)))) (tgN 2) (bOf (eBin gNe true (eBin gIx true (eBin gDGet true (eVar 1) (eVar 2)) (eC (.int 0))) (eC (.int 0)))) ce__law_summed_1) aNil)))))
noncomputable def m__law_summed : Mir := fnM 1 6 mb__law_summed
theorem ok__law_summed {f : Addr} {fd : FuncData} (F : Fun K "_law_summed" "_law_summed" s__law_summed f fd) (G__law_fraction : Fd P w K mg base 2 "_law_fraction" m__law_fraction) (z_sorted : mg "sorted" = none) (z_tuple : mg "tuple" = none) : FnG P w K mg base 3 f fd ["_law_terms"] (spF K m__law_summed) :=
  have nd := sc__law_summed.nd
  fn_ok F sc__law_summed (by decide) fun cdv A outer s H E hgd hr => by
    unfold mb__law_summed
    exact (s_cons (s_set nd rfl (.inr rfl) d_newK)
  (s_cons (s_for [3, 4, 5] PassesOwn.never rfl (i_seq (d_var 0 (pv 0))) (g_tup rfl (gs_cons (g_name 2 nd rfl (.inl rfl)) (gs_cons (g_tup rfl (gs_cons (g_name 3 nd rfl (.inl rfl)) (gs_cons (g_name 4 nd rfl (.inl rfl)) gs_nil))) gs_nil)))
  (s_cons (s_set nd rfl (.inl rfl) (d_dget2 hr (d_var 1 (pv 1)) (d_var 2 (pv 2)) (d_tup (a_cons (d_int).x (a_cons (d_int).x a_nil))).x))
  (s_one (s_dput 1 hr (pv 1) (d_var 2 (pv 2)) ((d_call G__law_fraction hgd hr (a_cons ((d_add (d_mul (d_item (d_var 5 (pv 5)) (d_int).x).x (d_var 4 (pv 4))).x (d_mul (d_var 3 (pv 3)) (d_item (d_var 5 (pv 5)) (d_int).x).x).x)).x (a_cons ((d_mul (d_item (d_var 5 (pv 5)) (d_int).x).x (d_var 4 (pv 4)))).x a_nil)))).fr))))
  (s_one (s_ret (d_tuple (d_lc (own := [("_law_power", 2)]) rfl nd (i_seq (((d_sortK hr (by rfl) (d_var 1 (pv 1)) (by rfl) z_sorted)).fr).x) (blkOk_by (N := ["_law_terms", "_law_found", "_law_power", "_law_num", "_law_den", "_law_one"]) (sc := defScope s__law_summed) (by decide +kernel)) (by decide) (fun _ _ _ _ _ => (g_name 2 nd rfl (.inl rfl))) (fun _ _ _ _ _ => (ts_one (t_ne hr (d_item (d_dget hr (d_var 1 (pv 1)) (d_var 2 (pv 2))).x (d_int).x).x (d_int).x))) (fun _ _ _ _ _ => (d_tup (a_cons (d_var 2 (pv 2)) (a_cons ((d_dget hr (d_var 1 (pv 1)) (d_var 2 (pv 2)))).x a_nil))))).x (by rfl) z_tuple)))))
/-! ### _law_total -/
abbrev s__law_total : Stmt := topS 29
theorem sc__law_total : FnScope ["_law_numbers", "_law_found", "_law_number_here"] ["_law_numbers"] (defScope s__law_total) := ⟨rfl, rfl, rfl, by decide +kernel, rfl, by decide +kernel, by decide +kernel⟩
def fg__law_total_1 : GV := (tgN 2)
def fb__law_total_1 : SM :=
  (gExt 1 (eVar 2))
noncomputable def mb__law_total : SM :=
  (gSeq (gSet 1 (eCall gLst' aNil))
  (gSeq (gFor [2] (iSeq (eVar 0)) fg__law_total_1 fb__law_total_1)
  (gRet (eCall (gCallF m__law_summed) (aCons true (eMov 1) aNil)))))
noncomputable def m__law_total : Mir := fnM 1 3 mb__law_total
theorem ok__law_total {f : Addr} {fd : FuncData} (F : Fun K "_law_total" "_law_total" s__law_total f fd) (G__law_summed : Fd P w K mg base 3 "_law_summed" m__law_summed) : FnG P w K mg base 4 f fd ["_law_numbers"] (spF K m__law_total) :=
  have nd := sc__law_total.nd
  fn_ok F sc__law_total (by decide) fun cdv A outer s H E hgd hr => by
    unfold mb__law_total
    exact (s_cons (s_set nd rfl (.inl rfl) (d_lst a_nil))
  (s_cons (s_for [2] PassesOwn.never rfl (i_seq (d_var 0 (pv 0))) (g_name 2 nd rfl (.inl rfl))
  (s_one (s_ext 1 (pv 1) (d_var 2 (pv 2)))))
  (s_one (s_ret (d_call G__law_summed hgd hr (a_cons ((d_mov 1 (pv 1))).x a_nil))))))
/-! ### _law_times -/
abbrev s__law_times : Stmt := topS 30
theorem sc__law_times : FnScope ["_law_one", "_law_other", "_law_found", "_law_power", "_law_factor_here", "_law_more", "_law_by"] ["_law_one", "_law_other"] (defScope s__law_times) := ⟨rfl, rfl, rfl, by decide +kernel, rfl, by decide +kernel, by decide +kernel⟩
def fg__law_times_1 : GV := (tgT 2 (tgCons (tgN 5) (tgCons (tgN 6) tgNil)))
noncomputable def fb__law_times_1 : SM :=
  (gApp 2 (eCall gTup' (aCons true (eBin gAddX true (eVar 3) (eVar 5)) (aCons true (oFr (eCall (gCallF m__law_fraction) (aCons true (eBin gMulX true (eBin gIx true (eVar 4) (eC (.int 0))) (eBin gIx true (eVar 6) (eC (.int 0)))) (aCons true (eBin gMulX true (eBin gIx true (eVar 4) (eC (.int 1))) (eBin gIx true (eVar 6) (eC (.int 1)))) aNil)))) aNil))))
def fg__law_times_2 : GV := (tgT 2 (tgCons (tgN 3) (tgCons (tgN 4) tgNil)))
noncomputable def fb__law_times_2 : SM :=
  (gFor [5, 6] (iSeq (eVar 1)) fg__law_times_1 fb__law_times_1)
noncomputable def mb__law_times : SM :=
  (gSeq (gSet 2 (eCall gLst' aNil))
  (gSeq (gFor [3, 4, 5, 6] (iSeq (eVar 0)) fg__law_times_2 fb__law_times_2)
  (gRet (eCall (gCallF m__law_summed) (aCons true (eMov 2) aNil)))))
noncomputable def m__law_times : Mir := fnM 2 7 mb__law_times
theorem ok__law_times {f : Addr} {fd : FuncData} (F : Fun K "_law_times" "_law_times" s__law_times f fd) (G__law_fraction : Fd P w K mg base 2 "_law_fraction" m__law_fraction) (G__law_summed : Fd P w K mg base 3 "_law_summed" m__law_summed) : FnG P w K mg base 4 f fd ["_law_one", "_law_other"] (spF K m__law_times) :=
  have nd := sc__law_times.nd
  fn_ok F sc__law_times (by decide) fun cdv A outer s H E hgd hr => by
    unfold mb__law_times
    exact (s_cons (s_set nd rfl (.inl rfl) (d_lst a_nil))
  (s_cons (s_for [3, 4, 5, 6] PassesOwn.never rfl (i_seq (d_var 0 (pv 0))) (g_tup rfl (gs_cons (g_name 3 nd rfl (.inl rfl)) (gs_cons (g_name 4 nd rfl (.inl rfl)) gs_nil)))
  (s_one (s_for [5, 6] PassesOwn.never rfl (i_seq (d_var 1 (pv 1))) (g_tup rfl (gs_cons (g_name 5 nd rfl (.inl rfl)) (gs_cons (g_name 6 nd rfl (.inl rfl)) gs_nil)))
  (s_one (s_app 2 (pv 2) (d_tup (a_cons ((d_add (d_var 3 (pv 3)) (d_var 5 (pv 5)))).x (a_cons (((d_call G__law_fraction hgd hr (a_cons ((d_mul (d_item (d_var 4 (pv 4)) (d_int).x).x (d_item (d_var 6 (pv 6)) (d_int).x).x)).x (a_cons ((d_mul (d_item (d_var 4 (pv 4)) (d_int).x).x (d_item (d_var 6 (pv 6)) (d_int).x).x)).x a_nil)))).fr).x a_nil))))))))
  (s_one (s_ret (d_call G__law_summed hgd hr (a_cons ((d_mov 2 (pv 2))).x a_nil))))))
/-! ### _law_minus -/
abbrev s__law_minus : Stmt := topS 31
theorem sc__law_minus : FnScope ["_law_number_here", "_law_power", "_law_factor_here"] ["_law_number_here"] (defScope s__law_minus) := ⟨rfl, rfl, rfl, by decide +kernel, rfl, by decide +kernel, by decide +kernel⟩
def ce__law_minus_1 : EV := (eCall gTup' (aCons true (eVar 1) (aCons true (eCall gTup' (aCons true (eUn gNeg (eBin gIx true (eVar 2) (eC (.int 0)))) (aCons true (eBin gIx true (eVar 2) (eC (.int 1))) aNil))) aNil)))
def mb__law_minus : SM :=
  (gRet (eCall (g1 gTuple) (aCons true (eLc [1, 2] (iSeq (eVar 0)) (tgT 2 (tgCons (tgN 1) (tgCons (tgN 2) tgNil))) bYes ce__law_minus_1) aNil)))
def m__law_minus : Mir := fnM 1 3 mb__law_minus
theorem ok__law_minus {f : Addr} {fd : FuncData} (F : Fun K "_law_minus" "_law_minus" s__law_minus f fd) (z_tuple : mg "tuple" = none) : FnG P w K mg base 1 f fd ["_law_number_here"] (spF K m__law_minus) :=
  have nd := sc__law_minus.nd
  fn_ok F sc__law_minus (by decide) fun cdv A outer s H E hgd hr => by
    unfold mb__law_minus
    exact (s_one (s_ret (d_tuple (d_lc (own := [("_law_power", 1), ("_law_factor_here", 2)]) rfl nd (i_seq (d_var 0 (pv 0))) (blkOk_by (N := ["_law_number_here", "_law_power", "_law_factor_here"]) (sc := defScope s__law_minus) (by decide +kernel)) (by decide) (fun _ _ _ _ _ => (g_tup rfl (gs_cons (g_name 1 nd rfl (.inl rfl)) (gs_cons (g_name 2 nd rfl (.inl rfl)) gs_nil)))) (fun _ _ _ _ _ => ts_nil) (fun _ _ _ _ _ => (d_tup (a_cons (d_var 1 (pv 1)) (a_cons ((d_tup (a_cons ((d_neg (d_item (d_var 2 (pv 2)) (d_int).x).x)).x (a_cons ((d_item (d_var 2 (pv 2)) (d_int).x)).x a_nil)))).x a_nil))))).x (by rfl) z_tuple)))
/-! ### _law_number -/
abbrev s__law_number : Stmt := topS 32
theorem sc__law_number : FnScope ["_law_bag_here", "_law_order", "_law_most", "_law_terms", "_law_power", "_law_turn"] ["_law_bag_here", "_law_order", "_law_most"] (defScope s__law_number) := ⟨rfl, rfl, rfl, by decide +kernel, rfl, by decide +kernel, by decide +kernel⟩
def fg__law_number_1 : GV := (tgN 5)
noncomputable def fb__law_number_1 : SM :=
  (gSeq (gApp 3 (eCall gTup' (aCons false (eVar 4) (aCons true (oFr (eIo m__law_factor 0 (qIo 0 qNil))) aNil))))
  (gAug (fun i j => i + j) 4 (eBin gAddX false (eC (.int 1)) (eIo m__law_take 0 (qIo 0 (qFz (eC (.int 3)) qNil))))))
noncomputable def mb__law_number : SM :=
  (gSeq (gIf (bOf (eBin gIsN true (eVar 1) (eC .none)))
  (gRet (eCall gTup' aNil))
  gNx)
  (gSeq (gPar 3 4 (eCall gLst' aNil) (oFz (eVar 1)))
  (gSeq (gFor [5] (iRange1 (eBin gAddX false (eC (.int 1)) (eIo m__law_take 0 (qIo 0 (qFz (eVar 2) qNil))))) fg__law_number_1 fb__law_number_1)
  (gRet (eCall (g1 gTuple) (aCons true (eVar 3) aNil))))))
noncomputable def m__law_number : Mir := fnM 3 6 mb__law_number
theorem ok__law_number {f : Addr} {fd : FuncData} (F : Fun K "_law_number" "_law_number" s__law_number f fd) (G__law_take : Fd P w K mg base 1 "_law_take" m__law_take) (G__law_factor : Fd P w K mg base 3 "_law_factor" m__law_factor) (z_range : mg "range" = none) (z_tuple : mg "tuple" = none) : FnG P w K mg base 4 f fd ["_law_bag_here", "_law_order", "_law_most"] (spF K m__law_number) :=
  have nd := sc__law_number.nd
  fn_ok F sc__law_number (by decide) fun cdv A outer s H E hgd hr => by
    unfold mb__law_number
    exact (s_cons (s_if (t_isN (d_var 1 (pv 1)) (d_non).x)
  (s_one (s_ret (d_tup a_nil)))
  s_nil)
  (s_cons (s_par rfl nd rfl rfl (by decide) rfl rfl (d_lst a_nil) (d_var 1 (pv 1)).fz)
  (s_cons (s_for [5] PassesOwn.never rfl (i_range1 (by rfl) z_range (d_add (d_int).x (d_callIo 0 G__law_take hgd hr (q_io (pv 0) (q_fz (d_var 2 (pv 2)) q_nil))).x).x) (g_name 5 nd rfl (.inl rfl))
  (s_cons (s_app 3 (pv 3) (d_tup (a_cons (d_var 4 (pv 4)) (a_cons (((d_callIo 0 G__law_factor hgd hr (q_io (pv 0) q_nil))).fr).x a_nil))))
  (s_one (s_aug ip_add nd rfl (.inl rfl) (d_add (d_int).x (d_callIo 0 G__law_take hgd hr (q_io (pv 0) (q_fz (d_int).x q_nil))).x).x))))
  (s_one (s_ret (d_tuple (d_var 3 (pv 3)) (by rfl) z_tuple))))))
/-! ### _law_within -/
abbrev s__law_within : Stmt := topS 33
theorem sc__law_within : FnScope ["_law_bag_here", "_law_least", "_law_greatest"] ["_law_bag_here", "_law_least", "_law_greatest"] (defScope s__law_within) := ⟨rfl, rfl, rfl, by decide +kernel, rfl, by decide +kernel, by decide +kernel⟩
def mb__law_within : SM :=
  (gSeq (gIf (bOf (eBin gIsN true (eVar 2) (eC .none)))
  (gRet (eIf (bOf (eBin gEq true (eIo m__law_take 0 (qIo 0 (qFz (eC (.int 4)) qNil))) (eC (.int 0)))) (eC .none) (oFr (eBin gAddX false (eVar 1) (eIo m__law_take 0 (qIo 0 (qFz (eC (.int 5)) qNil)))))))
  gNx)
  (gRet (eBin gAddX false (eVar 1) (eIo m__law_take 0 (qIo 0 (qFz (eBin gAddX true (eBin gSub true (eVar 2) (eVar 1)) (eC (.int 1))) qNil))))))
def m__law_within : Mir := fnM 3 3 mb__law_within
theorem ok__law_within {f : Addr} {fd : FuncData} (F : Fun K "_law_within" "_law_within" s__law_within f fd) (G__law_take : Fd P w K mg base 1 "_law_take" m__law_take) : FnG P w K mg base 2 f fd ["_law_bag_here", "_law_least", "_law_greatest"] (spF K m__law_within) :=
  have nd := sc__law_within.nd
  fn_ok F sc__law_within (by decide) fun cdv A outer s H E hgd hr => by
    unfold mb__law_within
    exact (s_cons (s_if (t_isN (d_var 2 (pv 2)) (d_non).x)
  (s_one (s_ret (d_if (t_eq hr (d_callIo 0 G__law_take hgd hr (q_io (pv 0) (q_fz (d_int).x q_nil))).x (d_int).x) d_non ((d_add (d_var 1 (pv 1)) (d_callIo 0 G__law_take hgd hr (q_io (pv 0) (q_fz (d_int).x q_nil))).x)).fr)))
  s_nil)
  (s_one (s_ret (d_add (d_var 1 (pv 1)) (d_callIo 0 G__law_take hgd hr (q_io (pv 0) (q_fz ((d_add (d_sub (d_var 2 (pv 2)) (d_var 1 (pv 1))).x (d_int).x)).x q_nil))).x))))
/-! ### _law_bounds -/
abbrev s__law_bounds : Stmt := topS 34
theorem sc__law_bounds : FnScope ["_law_bag_here", "_law_least"] ["_law_bag_here", "_law_least"] (defScope s__law_bounds) := ⟨rfl, rfl, rfl, by decide +kernel, rfl, by decide +kernel, by decide +kernel⟩
def mb__law_bounds : SM :=
  (gRet (eCall gTup' (aCons false (eVar 1) (aCons true (oFr (eIo m__law_some 0 (qIo 0 (qFz (oFr (eCall gLst' (aCons true (eVar 1) (aCons true (eVar 1) (aCons true (eBin gAddX true (eVar 1) (eC (.int 1))) (aCons true (eBin gAddX true (eVar 1) (eC (.int 3))) (aCons true (eC .none) aNil))))))) qNil)))) aNil))))
def m__law_bounds : Mir := fnM 2 2 mb__law_bounds
theorem ok__law_bounds {f : Addr} {fd : FuncData} (F : Fun K "_law_bounds" "_law_bounds" s__law_bounds f fd) (G__law_some : Fd P w K mg base 2 "_law_some" m__law_some) : FnG P w K mg base 3 f fd ["_law_bag_here", "_law_least"] (spF K m__law_bounds) :=
  have nd := sc__law_bounds.nd
  fn_ok F sc__law_bounds (by decide) fun cdv A outer s H E hgd hr => by
    unfold mb__law_bounds
    exact (s_one (s_ret (d_tup (a_cons (d_var 1 (pv 1)) (a_cons (((d_callIo 0 G__law_some hgd hr (q_io (pv 0) (q_fz (((d_lst (a_cons (d_var 1 (pv 1)) (a_cons (d_var 1 (pv 1)) (a_cons ((d_add (d_var 1 (pv 1)) (d_int).x)).x (a_cons ((d_add (d_var 1 (pv 1)) (d_int).x)).x (a_cons (d_non).x a_nil))))))).fr).x q_nil)))).fr).x a_nil)))))
/-! ### _law_any_side -/
abbrev s__law_any_side : Stmt := topS 35
theorem sc__law_any_side : FnScope ["_law_bag_here", "_law_many"] ["_law_bag_here", "_law_many"] (defScope s__law_any_side) := ⟨rfl, rfl, rfl, by decide +kernel, rfl, by decide +kernel, by decide +kernel⟩
def mb__law_any_side : SM :=
  (gRet (eBin gAddX false (eCall gTup' (aCons true (oFr (eIo m__law_take 0 (qIo 0 (qFz (eVar 1) qNil)))) aNil)) (eIo m__law_bounds 0 (qIo 0 (qFz (oFr (eIo m__law_some 0 (qIo 0 (qFz (oFr (eCall gLst' (aCons true (eC (.int 0)) (aCons true (eC (.int 0)) (aCons true (eC (.int 1)) (aCons true (eC (.int 2)) (aCons true (eUn gNeg (eC (.int 1))) (aCons true (eC (.int 3)) (aCons true (eUn gNeg (eC (.int 4))) (aCons true (eC (.int 7)) aNil)))))))))) qNil)))) qNil)))))
def m__law_any_side : Mir := fnM 2 2 mb__law_any_side
theorem ok__law_any_side {f : Addr} {fd : FuncData} (F : Fun K "_law_any_side" "_law_any_side" s__law_any_side f fd) (G__law_take : Fd P w K mg base 1 "_law_take" m__law_take) (G__law_some : Fd P w K mg base 2 "_law_some" m__law_some) (G__law_bounds : Fd P w K mg base 3 "_law_bounds" m__law_bounds) : FnG P w K mg base 4 f fd ["_law_bag_here", "_law_many"] (spF K m__law_any_side) :=
  have nd := sc__law_any_side.nd
  fn_ok F sc__law_any_side (by decide) fun cdv A outer s H E hgd hr => by
    unfold mb__law_any_side
    exact (s_one (s_ret (d_add ((d_tup (a_cons (((d_callIo 0 G__law_take hgd hr (q_io (pv 0) (q_fz (d_var 1 (pv 1)) q_nil)))).fr).x a_nil))).x (d_callIo 0 G__law_bounds hgd hr (q_io (pv 0) (q_fz (((d_callIo 0 G__law_some hgd hr (q_io (pv 0) (q_fz (((d_lst (a_cons (d_int).x (a_cons (d_int).x (a_cons (d_int).x (a_cons (d_int).x (a_cons ((d_neg (d_int).x)).x (a_cons (d_int).x (a_cons ((d_neg (d_int).x)).x (a_cons (d_int).x a_nil)))))))))).fr).x q_nil)))).fr).x q_nil))).x)))
/-! ### _law_any_row -/
abbrev s__law_any_row : Stmt := topS 36
theorem sc__law_any_row : FnScope ["_law_bag_here", "_law_many", "_law_size", "_law_sides", "_law_right", "_law_turn"] ["_law_bag_here", "_law_many"] (defScope s__law_any_row) := ⟨rfl, rfl, rfl, by decide +kernel, rfl, by decide +kernel, by decide +kernel⟩
def ce__law_any_row_1 : EV := (eIo m__law_any_side 0 (qIo 0 (qFz (eVar 1) qNil)))
def mb__law_any_row : SM :=
  (gSeq (gSet 2 (oFr (eIf (bOf (eBin gGt true (eVar 1) (eC (.int 0)))) (oFr (eIo m__law_take 0 (qIo 0 (qFz (oFr (eIo m__law_some 0 (qIo 0 (qFz (oFr (eCall gLst' (aCons true (eC (.int 2)) (aCons true (eC (.int 4)) (aCons true (eC (.int 6)) (aCons true (eC (.int 9)) aNil)))))) qNil)))) qNil)))) (eC (.int 0)))))
  (gSeq (gSet 3 (eLc [5] (iRange1 (eVar 2)) (tgN 5) bYes ce__law_any_row_1))
  (gSeq (gSet 4 (oFr (eIf (bOf (eBin gGt true (eIo m__law_take 0 (qIo 0 (qFz (eC (.int 3)) qNil))) (eC (.int 0)))) (oFr (eIo m__law_bounds 0 (qIo 0 (qFz (oFr (eIo m__law_some 0 (qIo 0 (qFz (oFr (eCall gLst' (aCons true (eC (.int 0)) (aCons true (eC (.int 1)) (aCons true (eUn gNeg (eC (.int 2))) (aCons true (eC (.int 3)) aNil)))))) qNil)))) qNil)))) (eC .none))))
  (gRet (eCall gTup' (aCons true (eCall (g1 gTuple) (aCons true (eVar 3) aNil)) (aCons true (eVar 4) aNil)))))))
def m__law_any_row : Mir := fnM 2 6 mb__law_any_row
theorem ok__law_any_row {f : Addr} {fd : FuncData} (F : Fun K "_law_any_row" "_law_any_row" s__law_any_row f fd) (G__law_take : Fd P w K mg base 1 "_law_take" m__law_take) (G__law_some : Fd P w K mg base 2 "_law_some" m__law_some) (G__law_bounds : Fd P w K mg base 3 "_law_bounds" m__law_bounds) (G__law_any_side : Fd P w K mg base 4 "_law_any_side" m__law_any_side) (z_range : mg "range" = none) (z_tuple : mg "tuple" = none) : FnG P w K mg base 5 f fd ["_law_bag_here", "_law_many"] (spF K m__law_any_row) :=
  have nd := sc__law_any_row.nd
  fn_ok F sc__law_any_row (by decide) fun cdv A outer s H E hgd hr => by
    unfold mb__law_any_row
    exact (s_cons (s_set nd rfl (.inl rfl) ((d_if (t_gt (d_var 1 (pv 1)) (d_int).x) ((d_callIo 0 G__law_take hgd hr (q_io (pv 0) (q_fz (((d_callIo 0 G__law_some hgd hr (q_io (pv 0) (q_fz (((d_lst (a_cons (d_int).x (a_cons (d_int).x (a_cons (d_int).x (a_cons (d_int).x a_nil)))))).fr).x q_nil)))).fr).x q_nil)))).fr d_int)).fr)
  (s_cons (s_setLc 3 (own := [("_law_turn", 5)]) rfl nd rfl rfl (sw_true rfl rfl rfl (by decide +kernel)) (i_range1 (by rfl) z_range (d_var 2 (pv 2))) (blkOk_by (N := ["_law_bag_here", "_law_many", "_law_size", "_law_sides", "_law_right", "_law_turn"]) (sc := defScope s__law_any_row) (by decide +kernel)) (by decide) (fun _ _ _ _ _ => (g_name 5 nd rfl (.inl rfl))) (fun _ _ _ _ _ => ts_nil) (fun _ _ _ _ _ => (d_callIo 0 G__law_any_side hgd hr (q_io (pv 0) (q_fz (d_var 1 (pv 1)) q_nil)))))
  (s_cons (s_set nd rfl (.inl rfl) ((d_if (t_gt (d_callIo 0 G__law_take hgd hr (q_io (pv 0) (q_fz (d_int).x q_nil))).x (d_int).x) ((d_callIo 0 G__law_bounds hgd hr (q_io (pv 0) (q_fz (((d_callIo 0 G__law_some hgd hr (q_io (pv 0) (q_fz (((d_lst (a_cons (d_int).x (a_cons (d_int).x (a_cons ((d_neg (d_int).x)).x (a_cons (d_int).x a_nil)))))).fr).x q_nil)))).fr).x q_nil)))).fr d_non)).fr)
  (s_one (s_ret (d_tup (a_cons ((d_tuple (d_var 3 (pv 3)) (by rfl) z_tuple)).x (a_cons (d_var 4 (pv 4)) a_nil))))))))
/-! ### _law_any_table -/
abbrev s__law_any_table : Stmt := topS 37
theorem sc__law_any_table : FnScope ["_law_bag_here", "_law_many", "_law_most", "_law_turn"] ["_law_bag_here", "_law_many", "_law_most"] (defScope s__law_any_table) := ⟨rfl, rfl, rfl, by decide +kernel, rfl, by decide +kernel, by decide +kernel⟩
def ce__law_any_table_1 : EV := (eIo m__law_any_row 0 (qIo 0 (qFz (eVar 1) qNil)))
def mb__law_any_table : SM :=
  (gRet (eCall gTup' (aCons false (eVar 1) (aCons true (eCall (g1 gTuple) (aCons true (eLc [3] (iRange1 (eIo m__law_take 0 (qIo 0 (qFz (eBin gAddX true (eVar 2) (eC (.int 1))) qNil)))) (tgN 3) bYes ce__law_any_table_1) aNil)) aNil))))
def m__law_any_table : Mir := fnM 3 4 mb__law_any_table
theorem ok__law_any_table {f : Addr} {fd : FuncData} (F : Fun K "_law_any_table" "_law_any_table" s__law_any_table f fd) (G__law_take : Fd P w K mg base 1 "_law_take" m__law_take) (G__law_any_row : Fd P w K mg base 5 "_law_any_row" m__law_any_row) (z_range : mg "range" = none) (z_tuple : mg "tuple" = none) : FnG P w K mg base 6 f fd ["_law_bag_here", "_law_many", "_law_most"] (spF K m__law_any_table) :=
  have nd := sc__law_any_table.nd
  fn_ok F sc__law_any_table (by decide) fun cdv A outer s H E hgd hr => by
    unfold mb__law_any_table
    exact (s_one (s_ret (d_tup (a_cons (d_var 1 (pv 1)) (a_cons ((d_tuple (d_lc (own := [("_law_turn", 3)]) rfl nd (i_range1 (by rfl) z_range (d_callIo 0 G__law_take hgd hr (q_io (pv 0) (q_fz ((d_add (d_var 2 (pv 2)) (d_int).x)).x q_nil))).x) (blkOk_by (N := ["_law_bag_here", "_law_many", "_law_most", "_law_turn"]) (sc := defScope s__law_any_table) (by decide +kernel)) (by decide) (fun _ _ _ _ _ => (g_name 3 nd rfl (.inl rfl))) (fun _ _ _ _ _ => ts_nil) (fun _ _ _ _ _ => (d_callIo 0 G__law_any_row hgd hr (q_io (pv 0) (q_fz (d_var 1 (pv 1)) q_nil))))).x (by rfl) z_tuple)).x a_nil)))))
/-! ### _law_own_sides -/
abbrev s__law_own_sides : Stmt := topS 38
theorem sc__law_own_sides : FnScope ["_law_bag_here", "_law_own", "_law_high", "_law_is_told", "_law_is_twice", "_law_low", "_law_sides"] ["_law_bag_here", "_law_own", "_law_high", "_law_is_told", "_law_is_twice"] (defScope s__law_own_sides) := ⟨rfl, rfl, rfl, by decide +kernel, rfl, by decide +kernel, by decide +kernel⟩
def mb__law_own_sides : SM :=
  (gSeq (gSet 5 (eIf (bOf (oFz (eVar 3))) (oFz (eVar 2)) (eBin gSub false (eVar 2) (eIo m__law_some 0 (qIo 0 (qFz (oFr (eCall gLst' (aCons true (eC (.int 0)) (aCons true (eC (.int 1)) (aCons true (eC (.int 3)) (aCons true (eC (.int 2)) aNil)))))) qNil))))))
  (gSeq (gSet 6 (eCall gLst' (aCons true (eCall gTup' (aCons true (eVar 1) (aCons true (eVar 5) (aCons true (eVar 2) aNil)))) aNil)))
  (gSeq (gIf (bAnd (bOf (oFz (eVar 4))) (bOf (eBin gEq true (eIo m__law_take 0 (qIo 0 (qFz (eC (.int 4)) qNil))) (eC (.int 0)))))
  (gApp 6 (oFr (eBin gAddX false (eCall gTup' (aCons true (eVar 1) aNil)) (eIo m__law_bounds 0 (qIo 0 (qFz (oFr (eBin gAddX false (eBin gAddX true (eVar 2) (eC (.int 1))) (eIo m__law_take 0 (qIo 0 (qFz (eC (.int 3)) qNil))))) qNil))))))
  gNx)
  (gRetV 6))))
def m__law_own_sides : Mir := fnM 5 7 mb__law_own_sides
theorem ok__law_own_sides {f : Addr} {fd : FuncData} (F : Fun K "_law_own_sides" "_law_own_sides" s__law_own_sides f fd) (G__law_take : Fd P w K mg base 1 "_law_take" m__law_take) (G__law_some : Fd P w K mg base 2 "_law_some" m__law_some) (G__law_bounds : Fd P w K mg base 3 "_law_bounds" m__law_bounds) : FnG P w K mg base 4 f fd ["_law_bag_here", "_law_own", "_law_high", "_law_is_told", "_law_is_twice"] (spF K m__law_own_sides) :=
  have nd := sc__law_own_sides.nd
  fn_ok F sc__law_own_sides (by decide) fun cdv A outer s H E hgd hr => by
    unfold mb__law_own_sides
    exact (s_cons (s_set nd rfl (.inl rfl) (d_if (t_val (d_var 3 (pv 3)).fz) (d_var 2 (pv 2)).fz (d_sub (d_var 2 (pv 2)) (d_callIo 0 G__law_some hgd hr (q_io (pv 0) (q_fz (((d_lst (a_cons (d_int).x (a_cons (d_int).x (a_cons (d_int).x (a_cons (d_int).x a_nil)))))).fr).x q_nil))).x)))
  (s_cons (s_set nd rfl (.inl rfl) (d_lst (a_cons ((d_tup (a_cons (d_var 1 (pv 1)) (a_cons (d_var 5 (pv 5)) (a_cons (d_var 2 (pv 2)) a_nil))))).x a_nil)))
  (s_cons (s_if (w_and (t_val (d_var 4 (pv 4)).fz) (w_and1 (t_eq hr (d_callIo 0 G__law_take hgd hr (q_io (pv 0) (q_fz (d_int).x q_nil))).x (d_int).x))).t
  (s_one (s_app 6 (pv 6) ((d_add ((d_tup (a_cons (d_var 1 (pv 1)) a_nil))).x (d_callIo 0 G__law_bounds hgd hr (q_io (pv 0) (q_fz (((d_add ((d_add (d_var 2 (pv 2)) (d_int).x)).x (d_callIo 0 G__law_take hgd hr (q_io (pv 0) (q_fz (d_int).x q_nil))).x)).fr).x q_nil))).x)).fr))
  s_nil)
  (s_one (s_retV 6 (pv 6))))))
/-! ### _law_silent_rows -/
abbrev s__law_silent_rows : Stmt := topS 39
theorem sc__law_silent_rows : FnScope ["_law_bag_here", "_law_many", "_law_is_told", "_law_is_twice", "_law_weights", "_law_owns", "_law_rows", "_law_own", "_law_high", "_law_sides", "_law_other", "_law_least", "_law_right", "_law_unknown"] ["_law_bag_here", "_law_many", "_law_is_told", "_law_is_twice"] (defScope s__law_silent_rows) := ⟨rfl, rfl, rfl, by decide +kernel, rfl, by decide +kernel, by decide +kernel⟩
def ce__law_silent_rows_1 : EV := (eIo m__law_take 0 (qIo 0 (qFz (eBin gAddX true (eBin gMulX true (eC (.int 5)) (eVar 1)) (eC (.int 1))) qNil)))
def fg__law_silent_rows_1 : GV := (tgN 10)
def fb__law_silent_rows_1 : SM :=
  (gIf (bAnd (bOf (eBin gNe true (eVar 10) (eVar 7))) (bOf (eBin gGt true (eIo m__law_take 0 (qIo 0 (qFz (eC (.int 3)) qNil))) (eC (.int 0)))))
  (gSeq (gSet 11 (oFr (eBin gAddX false (eBin gAddX true (eBin gAddX true (eVar 8) (eBin gDiv true (eBin gSub true (eBin gIx true (eVar 4) (eVar 7)) (eBin gIx true (eVar 4) (eVar 10))) (eVar 1))) (eC (.int 1))) (eIo m__law_some 0 (qIo 0 (qFz (oFr (eCall gLst' (aCons true (eC (.int 0)) (aCons true (eC (.int 0)) (aCons true (eC (.int 1)) (aCons true (eC (.int 3)) aNil)))))) qNil))))))
  (gSeq (gApp 9 (oFr (eBin gAddX false (eCall gTup' (aCons true (eVar 10) aNil)) (eIf (bOf (oFz (eVar 2))) (eCall gTup' (aCons true (eVar 11) (aCons true (eVar 11) aNil))) (oFr (eIo m__law_bounds 0 (qIo 0 (qFz (eVar 11) qNil))))))))
  (gIf (bAnd (bOf (oFz (eVar 3))) (bOf (eBin gEq true (eIo m__law_take 0 (qIo 0 (qFz (eC (.int 4)) qNil))) (eC (.int 0)))))
  (gApp 9 (oFr (eBin gAddX false (eCall gTup' (aCons true (eVar 10) aNil)) (eIo m__law_bounds 0 (qIo 0 (qFz (oFr (eBin gAddX false (eVar 11) (eIo m__law_take 0 (qIo 0 (qFz (eC (.int 3)) qNil))))) qNil))))))
  gNx)))
  gNx)
def fg__law_silent_rows_2 : GV := (tgN 7)
def fb__law_silent_rows_2 : SM :=
  (gSeq (gSet 8 (oFr (eIo m__law_some 0 (qIo 0 (qFz (oFr (eCall gLst' (aCons true (eC (.int 0)) (aCons true (eC (.int 0)) (aCons true (eC (.int 1)) (aCons true (eUn gNeg (eC (.int 2))) (aCons true (eC (.int 4)) aNil))))))) qNil)))))
  (gSeq (gSet 9 (eIo m__law_own_sides 0 (qIo 0 (qFz (eVar 7) (qFz (eVar 8) (qFz (eVar 2) (qFz (eVar 3) qNil)))))))
  (gSeq (gFor [10, 11] (iRange1 (eVar 1)) fg__law_silent_rows_1 fb__law_silent_rows_1)
  (gSeq (gSet 12 (oFr (eIo m__law_some 0 (qIo 0 (qFz (oFr (eCall gLst' (aCons true (eC .none) (aCons true (eC (.int 0)) (aCons true (eC (.int 2)) (aCons true (eUn gNeg (eC (.int 1))) (aCons true (eC (.int 5)) aNil))))))) qNil)))))
  (gSeq (gIf (bOf (eBin gNotN true (eVar 12) (eC .none)))
  (gSet 12 (oFr (eIf (bOf (oFz (eVar 2))) (eCall gTup' (aCons true (eVar 12) (aCons true (eVar 12) aNil))) (oFr (eIo m__law_bounds 0 (qIo 0 (qFz (eVar 12) qNil)))))))
  gNx)
  (gApp 6 (eCall gTup' (aCons true (eCall (g1 gTuple) (aCons true (eIo m__law_mixed 0 (qIo 0 (qFz (oFr (eSl true true (eVar 9) pNo (pSo (eC (.int 8))))) qNil))) aNil)) (aCons true (eVar 12) aNil)))))))))
def mb__law_silent_rows : SM :=
  (gSeq (gSet 4 (eLc [13] (iRange1 (eVar 1)) (tgN 13) bYes ce__law_silent_rows_1))
  (gSeq (gPar 5 6 (oFr (eIo m__law_mixed 0 (qIo 0 (qFz (oFr (gLR (eVar 1))) qNil)))) (eCall gLst' aNil))
  (gSeq (gFor [7, 8, 9, 10, 11, 12] (iSeq (eVar 5)) fg__law_silent_rows_2 fb__law_silent_rows_2)
  (gRet (eCall gTup' (aCons true (eVar 1) (aCons true (eCall (g1 gTuple) (aCons true (eVar 6) aNil)) aNil)))))))
def m__law_silent_rows : Mir := fnM 4 14 mb__law_silent_rows
theorem ok__law_silent_rows {f : Addr} {fd : FuncData} (F : Fun K "_law_silent_rows" "_law_silent_rows" s__law_silent_rows f fd) (G__law_take : Fd P w K mg base 1 "_law_take" m__law_take) (G__law_some : Fd P w K mg base 2 "_law_some" m__law_some) (G__law_mixed : Fd P w K mg base 2 "_law_mixed" m__law_mixed) (G__law_bounds : Fd P w K mg base 3 "_law_bounds" m__law_bounds) (G__law_own_sides : Fd P w K mg base 4 "_law_own_sides" m__law_own_sides) (z_list : mg "list" = none) (z_range : mg "range" = none) (z_tuple : mg "tuple" = none) : FnG P w K mg base 5 f fd ["_law_bag_here", "_law_many", "_law_is_told", "_law_is_twice"] (spF K m__law_silent_rows) :=
  have nd := sc__law_silent_rows.nd
  fn_ok F sc__law_silent_rows (by decide) fun cdv A outer s H E hgd hr => by
    unfold mb__law_silent_rows
    exact (s_cons (s_setLc 4 (own := [("_law_unknown", 13)]) rfl nd rfl rfl (sw_true rfl rfl rfl (by decide +kernel)) (i_range1 (by rfl) z_range (d_var 1 (pv 1))) (blkOk_by (N := ["_law_bag_here", "_law_many", "_law_is_told", "_law_is_twice", "_law_weights", "_law_owns", "_law_rows", "_law_own", "_law_high", "_law_sides", "_law_other", "_law_least", "_law_right", "_law_unknown"]) (sc := defScope s__law_silent_rows) (by decide +kernel)) (by decide) (fun _ _ _ _ _ => (g_name 13 nd rfl (.inl rfl))) (fun _ _ _ _ _ => ts_nil) (fun _ _ _ _ _ => (d_callIo 0 G__law_take hgd hr (q_io (pv 0) (q_fz ((d_add (d_mul (d_int).x (d_var 1 (pv 1))).x (d_int).x)).x q_nil)))))
  (s_cons (s_par rfl nd rfl rfl (by decide) rfl rfl ((d_callIo 0 G__law_mixed hgd hr (q_io (pv 0) (q_fz (((d_listR (d_var 1 (pv 1)) (by rfl) (by rfl) z_list (by rfl) z_range)).fr).x q_nil)))).fr (d_lst a_nil))
  (s_cons (s_for [7, 8, 9, 10, 11, 12] PassesOwn.never rfl (i_seq (d_var 5 (pv 5))) (g_name 7 nd rfl (.inl rfl))
  (s_cons (s_set nd rfl (.inl rfl) ((d_callIo 0 G__law_some hgd hr (q_io (pv 0) (q_fz (((d_lst (a_cons (d_int).x (a_cons (d_int).x (a_cons (d_int).x (a_cons ((d_neg (d_int).x)).x (a_cons (d_int).x a_nil))))))).fr).x q_nil)))).fr)
  (s_cons (s_set nd rfl (.inl rfl) (d_callIo 0 G__law_own_sides hgd hr (q_io (pv 0) (q_fz (d_var 7 (pv 7)) (q_fz (d_var 8 (pv 8)) (q_fz (d_var 2 (pv 2)) (q_fz (d_var 3 (pv 3)) q_nil)))))))
  (s_cons (s_for [10, 11] PassesOwn.never rfl (i_range1 (by rfl) z_range (d_var 1 (pv 1))) (g_name 10 nd rfl (.inl rfl))
  (s_one (s_if (w_and (t_ne hr (d_var 10 (pv 10)) (d_var 7 (pv 7))) (w_and1 (t_gt (d_callIo 0 G__law_take hgd hr (q_io (pv 0) (q_fz (d_int).x q_nil))).x (d_int).x))).t
  (s_cons (s_set nd rfl (.inl rfl) ((d_add ((d_add (d_add (d_var 8 (pv 8)) (d_fdiv (d_sub (d_item (d_var 4 (pv 4)) (d_var 7 (pv 7))).x (d_item (d_var 4 (pv 4)) (d_var 10 (pv 10))).x).x (d_var 1 (pv 1))).x).x (d_int).x)).x (d_callIo 0 G__law_some hgd hr (q_io (pv 0) (q_fz (((d_lst (a_cons (d_int).x (a_cons (d_int).x (a_cons (d_int).x (a_cons (d_int).x a_nil)))))).fr).x q_nil))).x)).fr)
  (s_cons (s_app 9 (pv 9) ((d_add ((d_tup (a_cons (d_var 10 (pv 10)) a_nil))).x (d_if (t_val (d_var 2 (pv 2)).fz) (d_tup (a_cons (d_var 11 (pv 11)) (a_cons (d_var 11 (pv 11)) a_nil))) ((d_callIo 0 G__law_bounds hgd hr (q_io (pv 0) (q_fz (d_var 11 (pv 11)) q_nil)))).fr).x)).fr)
  (s_one (s_if (w_and (t_val (d_var 3 (pv 3)).fz) (w_and1 (t_eq hr (d_callIo 0 G__law_take hgd hr (q_io (pv 0) (q_fz (d_int).x q_nil))).x (d_int).x))).t
  (s_one (s_app 9 (pv 9) ((d_add ((d_tup (a_cons (d_var 10 (pv 10)) a_nil))).x (d_callIo 0 G__law_bounds hgd hr (q_io (pv 0) (q_fz (((d_add (d_var 11 (pv 11)) (d_callIo 0 G__law_take hgd hr (q_io (pv 0) (q_fz (d_int).x q_nil))).x)).fr).x q_nil))).x)).fr))
  s_nil))))
  s_nil)))
  (s_cons (s_set nd rfl (.inl rfl) ((d_callIo 0 G__law_some hgd hr (q_io (pv 0) (q_fz (((d_lst (a_cons (d_non).x (a_cons (d_int).x (a_cons (d_int).x (a_cons ((d_neg (d_int).x)).x (a_cons (d_int).x a_nil))))))).fr).x q_nil)))).fr)
  (s_cons (s_if (t_notN (d_var 12 (pv 12)) (d_non).x)
  (s_one (s_set nd rfl (.inl rfl) ((d_if (t_val (d_var 2 (pv 2)).fz) (d_tup (a_cons (d_var 12 (pv 12)) (a_cons (d_var 12 (pv 12)) a_nil))) ((d_callIo 0 G__law_bounds hgd hr (q_io (pv 0) (q_fz (d_var 12 (pv 12)) q_nil)))).fr)).fr))
  s_nil)
  (s_one (s_app 6 (pv 6) (d_tup (a_cons ((d_tuple (d_callIo 0 G__law_mixed hgd hr (q_io (pv 0) (q_fz (((d_slice (d_var 9 (pv 9)) p_none (p_some (d_int).x))).fr).x q_nil))).x (by rfl) z_tuple)).x (a_cons (d_var 12 (pv 12)) a_nil)))))))))))
  (s_one (s_ret (d_tup (a_cons (d_var 1 (pv 1)) (a_cons ((d_tuple (d_var 6 (pv 6)) (by rfl) z_tuple)).x a_nil))))))))
/-! ### _law_silent_table -/
abbrev s__law_silent_table : Stmt := topS 40
theorem sc__law_silent_table : FnScope ["_law_bag_here", "_law_many", "_law_is_told"] ["_law_bag_here", "_law_many", "_law_is_told"] (defScope s__law_silent_table) := ⟨rfl, rfl, rfl, by decide +kernel, rfl, by decide +kernel, by decide +kernel⟩
def mb__law_silent_table : SM :=
  (gRet (eIo m__law_silent_rows 0 (qIo 0 (qFz (eVar 1) (qFz (eVar 2) (qFz (eNot (oFz (eVar 2))) qNil))))))
def m__law_silent_table : Mir := fnM 3 3 mb__law_silent_table
theorem ok__law_silent_table {f : Addr} {fd : FuncData} (F : Fun K "_law_silent_table" "_law_silent_table" s__law_silent_table f fd) (G__law_silent_rows : Fd P w K mg base 5 "_law_silent_rows" m__law_silent_rows) : FnG P w K mg base 6 f fd ["_law_bag_here", "_law_many", "_law_is_told"] (spF K m__law_silent_table) :=
  have nd := sc__law_silent_table.nd
  fn_ok F sc__law_silent_table (by decide) fun cdv A outer s H E hgd hr => by
    unfold mb__law_silent_table
    exact (s_one (s_ret (d_callIo 0 G__law_silent_rows hgd hr (q_io (pv 0) (q_fz (d_var 1 (pv 1)) (q_fz (d_var 2 (pv 2)) (q_fz ((d_not (d_var 2 (pv 2)).fz)).x q_nil)))))))
/-! ### _law_telling -/
abbrev s__law_telling : Stmt := topS 41
theorem sc__law_telling : FnScope ["_law_bag_here", "_law_table", "_law_found", "_law_sides", "_law_right", "_law_numbers", "_law_total_here", "_law_unknown", "_law_least", "_law_greatest"] ["_law_bag_here", "_law_table"] (defScope s__law_telling) := ⟨rfl, rfl, rfl, by decide +kernel, rfl, by decide +kernel, by decide +kernel⟩
noncomputable def ce__law_telling_1 : EV := (eIo m__law_number 0 (qIo 0 (qFz (oFr (eIo m__law_within 0 (qIo 0 (qFz (eVar 8) (qFz (eVar 9) qNil))))) (qFz (eC (.int 3)) qNil))))
def fg__law_telling_1 : GV := (tgT 2 (tgCons (tgN 3) (tgCons (tgN 4) tgNil)))
noncomputable def fb__law_telling_1 : SM :=
  (gSeq (gSet 5 (eLc [7, 8, 9] (iSeq (eVar 3)) (tgT 3 (tgCons (tgN 7) (tgCons (tgN 8) (tgCons (tgN 9) tgNil)))) bYes ce__law_telling_1))
  (gSeq (gSet 6 (oFr (eIf (bOf (eBin gNotN true (eVar 4) (eC .none))) (oFr (eIo m__law_number 0 (qIo 0 (qFz (oFr (eIo m__law_within 0 (qIo 0 (qFz (eBin gIx true (eVar 4) (eC (.int 0))) (qFz (eBin gIx true (eVar 4) (eC (.int 1))) qNil))))) (qFz (eC (.int 3)) qNil))))) (eCall gTup' aNil))))
  (gApp 2 (eCall gTup' (aCons true (eCall (g1 gTuple) (aCons true (eVar 5) aNil)) (aCons true (eVar 6) aNil))))))
noncomputable def mb__law_telling : SM :=
  (gSeq (gSet 2 (eCall gLst' aNil))
  (gSeq (gFor [3, 4, 5, 6, 7] (iSeq (eBin gIx true (eVar 1) (eC (.int 1)))) fg__law_telling_1 fb__law_telling_1)
  (gRet (eCall (g1 gTuple) (aCons true (eVar 2) aNil)))))
noncomputable def m__law_telling : Mir := fnM 2 10 mb__law_telling
theorem ok__law_telling {f : Addr} {fd : FuncData} (F : Fun K "_law_telling" "_law_telling" s__law_telling f fd) (G__law_number : Fd P w K mg base 4 "_law_number" m__law_number) (G__law_within : Fd P w K mg base 2 "_law_within" m__law_within) (z_tuple : mg "tuple" = none) : FnG P w K mg base 5 f fd ["_law_bag_here", "_law_table"] (spF K m__law_telling) :=
  have nd := sc__law_telling.nd
  fn_ok F sc__law_telling (by decide) fun cdv A outer s H E hgd hr => by
    unfold mb__law_telling
    exact (s_cons (s_set nd rfl (.inl rfl) (d_lst a_nil))
  (s_cons (s_for [3, 4, 5, 6, 7] PassesOwn.never rfl (i_seq ((d_item (d_var 1 (pv 1)) (d_int).x)).x) (g_tup rfl (gs_cons (g_name 3 nd rfl (.inl rfl)) (gs_cons (g_name 4 nd rfl (.inl rfl)) gs_nil)))
  (s_cons (s_setLc 5 (own := [("_law_unknown", 7), ("_law_least", 8), ("_law_greatest", 9)]) rfl nd rfl rfl (sw_true rfl rfl rfl (by decide +kernel)) (i_seq (d_var 3 (pv 3))) (blkOk_by (N := ["_law_bag_here", "_law_table", "_law_found", "_law_sides", "_law_right", "_law_numbers", "_law_total_here", "_law_unknown", "_law_least", "_law_greatest"]) (sc := defScope s__law_telling) (by decide +kernel)) (by decide) (fun _ _ _ _ _ => (g_tup rfl (gs_cons (g_name 7 nd rfl (.inl rfl)) (gs_cons (g_name 8 nd rfl (.inl rfl)) (gs_cons (g_name 9 nd rfl (.inl rfl)) gs_nil))))) (fun _ _ _ _ _ => ts_nil) (fun _ _ _ _ _ => (d_callIo 0 G__law_number hgd hr (q_io (pv 0) (q_fz (((d_callIo 0 G__law_within hgd hr (q_io (pv 0) (q_fz (d_var 8 (pv 8)) (q_fz (d_var 9 (pv 9)) q_nil))))).fr).x (q_fz (d_int).x q_nil))))))
  (s_cons (s_set nd rfl (.inl rfl) ((d_if (t_notN (d_var 4 (pv 4)) (d_non).x) ((d_callIo 0 G__law_number hgd hr (q_io (pv 0) (q_fz (((d_callIo 0 G__law_within hgd hr (q_io (pv 0) (q_fz ((d_item (d_var 4 (pv 4)) (d_int).x)).x (q_fz ((d_item (d_var 4 (pv 4)) (d_int).x)).x q_nil))))).fr).x (q_fz (d_int).x q_nil))))).fr (d_tup a_nil))).fr)
  (s_one (s_app 2 (pv 2) (d_tup (a_cons ((d_tuple (d_var 5 (pv 5)) (by rfl) z_tuple)).x (a_cons (d_var 6 (pv 6)) a_nil))))))))
  (s_one (s_ret (d_tuple (d_var 2 (pv 2)) (by rfl) z_tuple)))))
/-! ### _law_pairings -/
abbrev s__law_pairings : Stmt := topS 42
theorem sc__law_pairings : FnScope ["_law_many", "_law_found", "_law_turn", "_law_longer", "_law_sign", "_law_way", "_law_place", "_law_more", "_law_one"] ["_law_many"] (defScope s__law_pairings) := ⟨rfl, rfl, rfl, by decide +kernel, rfl, by decide +kernel, by decide +kernel⟩
def ce__law_pairings_1 : EV := (oFz (eVar 8))
def ce__law_pairings_2 : EV := (eC (.int 1))
def fg__law_pairings_1 : GV := (tgN 6)
def fb__law_pairings_1 : SM :=
  (gSeq (gSet 7 (eCall (g1 gLen) (aCons true (eLc [8] (iSeq (eVar 5)) (tgN 8) (bOf (eBin gGt true (eVar 8) (eVar 6))) ce__law_pairings_2) aNil)))
  (gApp 3 (eCall gTup' (aCons true (eIf (bOf (eBin gNe true (eBin gMulX true (eBin gDiv true (eVar 7) (eC (.int 2))) (eC (.int 2))) (eVar 7))) (eUn gNeg (eVar 4)) (oFz (eVar 4))) (aCons true (eBin gAddX true (eVar 5) (eCall gTup' (aCons true (eVar 6) aNil))) aNil)))))
def fg__law_pairings_2 : GV := (tgT 2 (tgCons (tgN 4) (tgCons (tgN 5) tgNil)))
def fb__law_pairings_2 : SM :=
  (gFor [6, 7] (iSeq (oFr (eLc [8] (iRange1 (eVar 0)) (tgN 8) (bOf (eBin (gIn true) true (eVar 8) (eVar 5))) ce__law_pairings_1))) fg__law_pairings_1 fb__law_pairings_1)
def fg__law_pairings_3 : GV := (tgN 2)
def fb__law_pairings_3 : SM :=
  (gSeq (gSet 3 (eCall gLst' aNil))
  (gSeq (gFor [4, 5, 6, 7] (iSeq (eVar 1)) fg__law_pairings_2 fb__law_pairings_2)
  (gSet 1 (eMov 3))))
def mb__law_pairings : SM :=
  (gSeq (gSet 1 (oFr (eCall gLst' (aCons true (eCall gTup' (aCons true (eC (.int 1)) (aCons true (eCall gTup' aNil) aNil))) aNil))))
  (gSeq (gFor [2, 3, 4, 5, 6, 7] (iRange1 (eVar 0)) fg__law_pairings_3 fb__law_pairings_3)
  (gRet (oFz (eVar 1)))))
def m__law_pairings : Mir := fnM 1 9 mb__law_pairings
theorem ok__law_pairings {f : Addr} {fd : FuncData} (F : Fun K "_law_pairings" "_law_pairings" s__law_pairings f fd) (z_len : mg "len" = none) (z_range : mg "range" = none) : FnG P w K mg base 1 f fd ["_law_many"] (spF K m__law_pairings) :=
  have nd := sc__law_pairings.nd
  fn_ok F sc__law_pairings (by decide) fun cdv A outer s H E hgd hr => by
    unfold mb__law_pairings
    exact (s_cons (s_set nd rfl (.inl rfl) ((d_lst (a_cons ((d_tup (a_cons (d_int).x (a_cons ((d_tup a_nil)).x a_nil)))).x a_nil))).fr)
  (s_cons (s_for [2, 3, 4, 5, 6, 7] PassesOwn.never rfl (i_range1 (by rfl) z_range (d_var 0 (pv 0))) (g_name 2 nd rfl (.inl rfl))
  (s_cons (s_set nd rfl (.inl rfl) (d_lst a_nil))
  (s_cons (s_for [4, 5, 6, 7] PassesOwn.never rfl (i_seq (d_var 1 (pv 1))) (g_tup rfl (gs_cons (g_name 4 nd rfl (.inl rfl)) (gs_cons (g_name 5 nd rfl (.inr rfl)) gs_nil)))
  (s_one (s_for [6, 7] PassesOwn.never rfl (i_seq (((d_lc (own := [("_law_one", 8)]) rfl nd (i_range1 (by rfl) z_range (d_var 0 (pv 0))) (blkOk_by (N := ["_law_many", "_law_found", "_law_turn", "_law_longer", "_law_sign", "_law_way", "_law_place", "_law_more", "_law_one"]) (sc := defScope s__law_pairings) (by decide +kernel)) (by decide) (fun _ _ _ _ _ => (g_name 8 nd rfl (.inl rfl))) (fun _ _ _ _ _ => (ts_one (t_notIn (d_var 8 (pv 8)) (d_var 5 (pv 5))))) (fun _ _ _ _ _ => (d_var 8 (pv 8)).fz))).fr).x) (g_name 6 nd rfl (.inr rfl))
  (s_cons (s_set nd rfl (.inl rfl) (d_len (d_lc (own := [("_law_one", 8)]) rfl nd (i_seq (d_var 5 (pv 5))) (blkOk_by (N := ["_law_many", "_law_found", "_law_turn", "_law_longer", "_law_sign", "_law_way", "_law_place", "_law_more", "_law_one"]) (sc := defScope s__law_pairings) (by decide +kernel)) (by decide) (fun _ _ _ _ _ => (g_name 8 nd rfl (.inl rfl))) (fun _ _ _ _ _ => (ts_one (t_gt (d_var 8 (pv 8)) (d_var 6 (pv 6))))) (fun _ _ _ _ _ => d_int)).x (by rfl) z_len))
  (s_one (s_app 3 (pv 3) (d_tup (a_cons ((d_if (t_ne hr (d_mul (d_fdiv (d_var 7 (pv 7)) (d_int).x).x (d_int).x).x (d_var 7 (pv 7))) (d_neg (d_var 4 (pv 4))) (d_var 4 (pv 4)).fz)).x (a_cons ((d_add (d_var 5 (pv 5)) (d_tup (a_cons (d_var 6 (pv 6)) a_nil)).x)).x a_nil)))))))))
  (s_one (s_set nd rfl (.inl rfl) (d_mov 3 (pv 3)))))))
  (s_one (s_ret (d_var 1 (pv 1)).fz))))
/-! ### _law_matrix -/
abbrev s__law_matrix : Stmt := topS 43
theorem sc__law_matrix : FnScope ["_law_table", "_law_telling_here", "_law_found", "_law_row", "_law_numbers", "_law_right", "_law_its", "_law_unknown", "_law_side", "_law_number_here", "_law_some_here"] ["_law_table", "_law_telling_here"] (defScope s__law_matrix) := ⟨rfl, rfl, rfl, by decide +kernel, rfl, by decide +kernel, by decide +kernel⟩
def ce__law_matrix_1 : EV := (oFz (eVar 9))
def ce__law_matrix_2 : EV := (eLc [8, 9] (iZip true (eBin gIx true (eVar 3) (eC (.int 0))) (eVar 4)) (tgT 2 (tgCons (tgN 8) (tgCons (tgN 9) tgNil))) (bOf (eBin gEq true (eBin gIx true (eVar 8) (eC (.int 0))) (eVar 7))) ce__law_matrix_1)
noncomputable def ce__law_matrix_3 : EV := (eCall (gCallF m__law_total) (aCons true (eVar 10) aNil))
def fg__law_matrix_1 : GV := (tgT 2 (tgCons (tgN 3) (tgCons (tgT 2 (tgCons (tgN 4) (tgCons (tgN 5) tgNil))) tgNil)))
noncomputable def fb__law_matrix_1 : SM :=
  (gSeq (gSet 6 (eLc [7] (iRange1 (eBin gIx true (eVar 0) (eC (.int 0)))) (tgN 7) bYes ce__law_matrix_2))
  (gApp 2 (oFr (eLc [10] (iSeq (eMov 6)) (tgN 10) bYes ce__law_matrix_3))))
noncomputable def mb__law_matrix : SM :=
  (gSeq (gSet 2 (eCall gLst' aNil))
  (gSeq (gFor [3, 4, 5, 6] (iZip true (eBin gIx true (eVar 0) (eC (.int 1))) (eVar 1)) fg__law_matrix_1 fb__law_matrix_1)
  (gRetV 2)))
noncomputable def m__law_matrix : Mir := fnM 2 11 mb__law_matrix
theorem ok__law_matrix {f : Addr} {fd : FuncData} (F : Fun K "_law_matrix" "_law_matrix" s__law_matrix f fd) (G__law_total : Fd P w K mg base 4 "_law_total" m__law_total) (z_range : mg "range" = none) (z_zip : mg "zip" = none) : FnG P w K mg base 5 f fd ["_law_table", "_law_telling_here"] (spF K m__law_matrix) :=
  have nd := sc__law_matrix.nd
  fn_ok F sc__law_matrix (by decide) fun cdv A outer s H E hgd hr => by
    unfold mb__law_matrix
    exact (s_cons (s_set nd rfl (.inl rfl) (d_lst a_nil))
  (s_cons (s_for [3, 4, 5, 6] PassesOwn.never rfl (i_zip (by rfl) z_zip ((d_item (d_var 0 (pv 0)) (d_int).x)).x (d_var 1 (pv 1))) (g_tup rfl (gs_cons (g_name 3 nd rfl (.inr rfl)) (gs_cons (g_tup rfl (gs_cons (g_name 4 nd rfl (.inr rfl)) (gs_cons (g_name 5 nd rfl (.inl rfl)) gs_nil))) gs_nil)))
  (s_cons (s_setLc 6 (own := [("_law_unknown", 7)]) rfl nd rfl rfl (sw_true rfl rfl rfl (by decide +kernel)) (i_range1 (by rfl) z_range (d_item (d_var 0 (pv 0)) (d_int).x).x) (blkOk_by (N := ["_law_table", "_law_telling_here", "_law_found", "_law_row", "_law_numbers", "_law_right", "_law_its", "_law_unknown", "_law_side", "_law_number_here", "_law_some_here"]) (sc := defScope s__law_matrix) (by decide +kernel)) (by decide) (fun _ _ _ _ _ => (g_name 7 nd rfl (.inr rfl))) (fun _ _ _ _ _ => ts_nil) (fun _ _ _ _ _ => (d_lc (own := [("_law_side", 8), ("_law_number_here", 9)]) rfl nd (i_zip (by rfl) z_zip ((d_item (d_var 3 (pv 3)) (d_int).x)).x (d_var 4 (pv 4))) (blkOk_by (by rfl)) (by decide) (fun _ _ _ _ _ => (g_tup rfl (gs_cons (g_name 8 nd rfl (.inl rfl)) (gs_cons (g_name 9 nd rfl (.inl rfl)) gs_nil)))) (fun _ _ _ _ _ => (ts_one (t_eq hr (d_item (d_var 8 (pv 8)) (d_int).x).x (d_var 7 (pv 7))))) (fun _ _ _ _ _ => (d_var 9 (pv 9)).fz))))
  (s_one (s_app 2 (pv 2) ((d_lc (own := [("_law_some_here", 10)]) rfl nd (i_seq ((d_mov 6 (pv 6))).x) (blkOk_by (N := ["_law_table", "_law_telling_here", "_law_found", "_law_row", "_law_numbers", "_law_right", "_law_its", "_law_unknown", "_law_side", "_law_number_here", "_law_some_here"]) (sc := defScope s__law_matrix) (by decide +kernel)) (by decide) (fun _ _ _ _ _ => (g_name 10 nd rfl (.inl rfl))) (fun _ _ _ _ _ => ts_nil) (fun _ _ _ _ _ => (d_call G__law_total hgd hr (a_cons (d_var 10 (pv 10)) a_nil))))).fr))))
  (s_one (s_retV 2 (pv 2)))))
/-! ### _law_square -/
abbrev s__law_square : Stmt := topS 44
theorem sc__law_square : FnScope ["_law_bag_here", "_law_most", "_law_many", "_law_rows", "_law_turn"] ["_law_bag_here", "_law_most"] (defScope s__law_square) := ⟨rfl, rfl, rfl, by decide +kernel, rfl, by decide +kernel, by decide +kernel⟩
def ce__law_square_1 : EV := (eIo m__law_any_row 0 (qIo 0 (qFz (eVar 2) qNil)))
def mb__law_square : SM :=
  (gSeq (gSet 2 (oFr (eIo m__law_some 0 (qIo 0 (qFz (oFr (eCall gLst' (aCons true (eVar 1) (aCons true (eC (.int 2)) (aCons true (eC (.int 3)) (aCons true (eC (.int 1)) (aCons true (eC (.int 2)) (aCons true (eC (.int 0)) aNil)))))))) qNil)))))
  (gSeq (gIf (bOf (eBin gEq true (eIo m__law_take 0 (qIo 0 (qFz (eC (.int 2)) qNil))) (eC (.int 0))))
  (gRet (eIo m__law_silent_table 0 (qIo 0 (qFz (eVar 2) (qFz (eBin gEq true (eIo m__law_take 0 (qIo 0 (qFz (eC (.int 2)) qNil))) (eC (.int 0))) qNil)))))
  gNx)
  (gSeq (gSet 3 (oFr (eBin gAddX false (oFr (eCall (g1 gList) (aCons true (eBin gIx true (eIo m__law_any_table 0 (qIo 0 (qFz (eVar 2) (qFz (eVar 2) qNil)))) (eC (.int 1))) aNil))) (eLc [4] (iRange1 (eVar 2)) (tgN 4) bYes ce__law_square_1))))
  (gRet (eCall gTup' (aCons true (eVar 2) (aCons true (eCall (g1 gTuple) (aCons true (eSl true true (eVar 3) pNo (pSo (eVar 2))) aNil)) aNil)))))))
def m__law_square : Mir := fnM 2 5 mb__law_square
theorem ok__law_square {f : Addr} {fd : FuncData} (F : Fun K "_law_square" "_law_square" s__law_square f fd) (G__law_take : Fd P w K mg base 1 "_law_take" m__law_take) (G__law_some : Fd P w K mg base 2 "_law_some" m__law_some) (G__law_any_row : Fd P w K mg base 5 "_law_any_row" m__law_any_row) (G__law_any_table : Fd P w K mg base 6 "_law_any_table" m__law_any_table) (G__law_silent_table : Fd P w K mg base 6 "_law_silent_table" m__law_silent_table) (z_list : mg "list" = none) (z_range : mg "range" = none) (z_tuple : mg "tuple" = none) : FnG P w K mg base 7 f fd ["_law_bag_here", "_law_most"] (spF K m__law_square) :=
  have nd := sc__law_square.nd
  fn_ok F sc__law_square (by decide) fun cdv A outer s H E hgd hr => by
    unfold mb__law_square
    exact (s_cons (s_set nd rfl (.inr rfl) ((d_callIo 0 G__law_some hgd hr (q_io (pv 0) (q_fz (((d_lst (a_cons (d_var 1 (pv 1)) (a_cons (d_int).x (a_cons (d_int).x (a_cons (d_int).x (a_cons (d_int).x (a_cons (d_int).x a_nil)))))))).fr).x q_nil)))).fr)
  (s_cons (s_if (t_eq hr (d_callIo 0 G__law_take hgd hr (q_io (pv 0) (q_fz (d_int).x q_nil))).x (d_int).x)
  (s_one (s_ret (d_callIo 0 G__law_silent_table hgd hr (q_io (pv 0) (q_fz (d_var 2 (pv 2)) (q_fz ((d_eq hr (d_callIo 0 G__law_take hgd hr (q_io (pv 0) (q_fz (d_int).x q_nil))).x (d_int).x)).x q_nil))))))
  s_nil)
  (s_cons (s_set nd rfl (.inl rfl) ((d_add (((d_list (d_item (d_callIo 0 G__law_any_table hgd hr (q_io (pv 0) (q_fz (d_var 2 (pv 2)) (q_fz (d_var 2 (pv 2)) q_nil)))).x (d_int).x).x (by rfl) z_list)).fr).x (d_lc (own := [("_law_turn", 4)]) rfl nd (i_range1 (by rfl) z_range (d_var 2 (pv 2))) (blkOk_by (N := ["_law_bag_here", "_law_most", "_law_many", "_law_rows", "_law_turn"]) (sc := defScope s__law_square) (by decide +kernel)) (by decide) (fun _ _ _ _ _ => (g_name 4 nd rfl (.inl rfl))) (fun _ _ _ _ _ => ts_nil) (fun _ _ _ _ _ => (d_callIo 0 G__law_any_row hgd hr (q_io (pv 0) (q_fz (d_var 2 (pv 2)) q_nil))))).x)).fr)
  (s_one (s_ret (d_tup (a_cons (d_var 2 (pv 2)) (a_cons ((d_tuple (d_slice (d_var 3 (pv 3)) p_none (p_some (d_var 2 (pv 2)))).x (by rfl) z_tuple)).x a_nil))))))))
/-! ### _law_at_number -/
abbrev s__law_at_number : Stmt := topS 45
theorem sc__law_at_number : FnScope ["_law_bag_here"] ["_law_bag_here"] (defScope s__law_at_number) := ⟨rfl, rfl, rfl, by decide +kernel, rfl, by decide +kernel, by decide +kernel⟩
noncomputable def mb__law_at_number : SM :=
  (gRet (eCall (gCallF m__law_fraction) (aCons false (oFr (eIo m__law_some 0 (qIo 0 (qFz (oFr (eCall gLst' (aCons true (eC (.int 0)) (aCons true (eC (.int 1)) (aCons true (eC (.int 2)) (aCons true (eC (.int 3)) (aCons true (eUn gNeg (eC (.int 1))) (aCons true (eC (.int 5)) (aCons true (eUn gNeg (eC (.int 3))) (aCons true (eC (.int 7)) (aCons true (eC (.int 4)) (aCons true (eUn gNeg (eC (.int 7))) aNil)))))))))))) qNil)))) (aCons true (oFr (eIo m__law_some 0 (qIo 0 (qFz (oFr (eCall gLst' (aCons true (eC (.int 1)) (aCons true (eC (.int 2)) (aCons true (eC (.int 1)) (aCons true (eC (.int 3)) (aCons true (eC (.int 1)) (aCons true (eC (.int 4)) aNil)))))))) qNil)))) aNil))))
noncomputable def m__law_at_number : Mir := fnM 1 1 mb__law_at_number
theorem ok__law_at_number {f : Addr} {fd : FuncData} (F : Fun K "_law_at_number" "_law_at_number" s__law_at_number f fd) (G__law_some : Fd P w K mg base 2 "_law_some" m__law_some) (G__law_fraction : Fd P w K mg base 2 "_law_fraction" m__law_fraction) : FnG P w K mg base 3 f fd ["_law_bag_here"] (spF K m__law_at_number) :=
  have nd := sc__law_at_number.nd
  fn_ok F sc__law_at_number (by decide) fun cdv A outer s H E hgd hr => by
    unfold mb__law_at_number
    exact (s_one (s_ret (d_call G__law_fraction hgd hr (a_cons (((d_callIo 0 G__law_some hgd hr (q_io (pv 0) (q_fz (((d_lst (a_cons (d_int).x (a_cons (d_int).x (a_cons (d_int).x (a_cons (d_int).x (a_cons ((d_neg (d_int).x)).x (a_cons (d_int).x (a_cons ((d_neg (d_int).x)).x (a_cons (d_int).x (a_cons (d_int).x (a_cons ((d_neg (d_int).x)).x a_nil)))))))))))).fr).x q_nil)))).fr).x (a_cons (((d_callIo 0 G__law_some hgd hr (q_io (pv 0) (q_fz (((d_lst (a_cons (d_int).x (a_cons (d_int).x (a_cons (d_int).x (a_cons (d_int).x (a_cons (d_int).x (a_cons (d_int).x a_nil)))))))).fr).x q_nil)))).fr).x a_nil)))))
/-! ### _law_poly -/
abbrev s__law_poly : Stmt := topS 46
theorem sc__law_poly : FnScope ["_law_table", "_law_telling_here", "_law_matrix_here", "_law_many", "_law_found", "_law_sign", "_law_way", "_law_polynomial", "_law_row", "_law_place", "_law_more", "_law_shifted", "_law_power", "_law_one", "_law_some_here", "_law_other"] ["_law_table", "_law_telling_here"] (defScope s__law_poly) := ⟨rfl, rfl, rfl, by decide +kernel, rfl, by decide +kernel, by decide +kernel⟩
noncomputable def ce__law_poly_1 : EV := (eCall gLst' aNil)
noncomputable def ce__law_poly_2 : EV := (eCall (gCallF m__law_times) (aCons true (eVar 13) (aCons true (eBin gIx true (eBin gIx true (eVar 2) (eVar 8)) (eVar 9)) aNil)))
noncomputable def ce__law_poly_3 : EV := (eCall (gCallF m__law_minus) (aCons true (eVar 13) aNil))
noncomputable def ce__law_poly_4 : EV := (eCall (gCallF m__law_total) (aCons true (oFr (eCall gLst' (aCons true (eVar 13) (aCons true (eVar 15) aNil)))) aNil))
def fg__law_poly_1 : GV := (tgT 2 (tgCons (tgN 8) (tgCons (tgN 9) tgNil)))
noncomputable def fb__law_poly_1 : SM :=
  (gSeq (gSet 10 (eBin gAddX true (eLc [13] (iSeq (eVar 7)) (tgN 13) bYes ce__law_poly_2) (eCall gLst' (aCons true (eCall gTup' aNil) aNil))))
  (gSeq (gIf (bOf (eBin gEq true (eVar 8) (eVar 9)))
  (gSeq (gSet 11 (oFr (eBin gAddX false (oFr (eCall gLst' (aCons true (eCall gTup' aNil) aNil))) (eLc [13] (iSeq (eVar 7)) (tgN 13) bYes ce__law_poly_3))))
  (gSet 10 (eLc [13, 15] (iZip true (eMov 10) (eVar 11)) (tgT 2 (tgCons (tgN 13) (tgCons (tgN 15) tgNil))) bYes ce__law_poly_4)))
  gNx)
  (gSet 7 (eMov 10))))
def fg__law_poly_2 : GV := (tgT 2 (tgCons (tgN 12) (tgCons (tgN 13) tgNil)))
noncomputable def fb__law_poly_2 : SM :=
  (gAppIx 4 (eVar 12) (oFz (eVar 13)))
def fg__law_poly_3 : GV := (tgT 2 (tgCons (tgN 5) (tgCons (tgN 6) tgNil)))
noncomputable def fb__law_poly_3 : SM :=
  (gSeq (gSet 7 (oFr (eCall gLst' (aCons true (eCall gTup' (aCons true (eCall gTup' (aCons true (eC (.int 0)) (aCons true (eCall gTup' (aCons true (eVar 5) (aCons true (eC (.int 1)) aNil))) aNil))) aNil)) aNil))))
  (gSeq (gFor [8, 9, 10, 11] (iEnum' (eVar 6)) fg__law_poly_1 fb__law_poly_1)
  (gFor [12] (iEnum' (oFr (eSl true true (eVar 7) pNo (pSo (eBin gAddX true (eVar 3) (eC (.int 1))))))) fg__law_poly_2 fb__law_poly_2)))
noncomputable def ce__law_poly_5 : EV := (eCall (gCallF m__law_total) (aCons true (eVar 14) aNil))
noncomputable def mb__law_poly : SM :=
  (gSeq (gAsg (eCall gTup' (aCons true (oFr (eCall (gCallF m__law_matrix) (aCons true (eVar 0) (aCons true (eVar 1) aNil)))) (aCons true (eBin gIx true (eVar 0) (eC (.int 0))) aNil))) (tgT 2 (tgCons (tgN 2) (tgCons (tgN 3) tgNil))))
  (gSeq (gSet 4 (eLc [12] (iRange1 (eBin gAddX true (eVar 3) (eC (.int 1)))) (tgN 12) bYes ce__law_poly_1))
  (gSeq (gFor [5, 6, 7, 8, 9, 10, 11, 12] (iSeq (oFr (eCall (gCallF m__law_pairings) (aCons true (eVar 3) aNil)))) fg__law_poly_3 fb__law_poly_3)
  (gRet (eLc [14] (iSeq (eMov 4)) (tgN 14) bYes ce__law_poly_5)))))
noncomputable def m__law_poly : Mir := fnM 2 16 mb__law_poly
theorem ok__law_poly {f : Addr} {fd : FuncData} (F : Fun K "_law_poly" "_law_poly" s__law_poly f fd) (G__law_total : Fd P w K mg base 4 "_law_total" m__law_total) (G__law_times : Fd P w K mg base 4 "_law_times" m__law_times) (G__law_minus : Fd P w K mg base 1 "_law_minus" m__law_minus) (G__law_pairings : Fd P w K mg base 1 "_law_pairings" m__law_pairings) (G__law_matrix : Fd P w K mg base 5 "_law_matrix" m__law_matrix) (z_enumerate : mg "enumerate" = none) (z_range : mg "range" = none) (z_zip : mg "zip" = none) : FnG P w K mg base 6 f fd ["_law_table", "_law_telling_here"] (spF K m__law_poly) :=
  have nd := sc__law_poly.nd
  fn_ok F sc__law_poly (by decide) fun cdv A outer s H E hgd hr => by
    unfold mb__law_poly
    exact (s_cons (s_asg (d_tup (a_cons (((d_call G__law_matrix hgd hr (a_cons (d_var 0 (pv 0)) (a_cons (d_var 1 (pv 1)) a_nil)))).fr).x (a_cons ((d_item (d_var 0 (pv 0)) (d_int).x)).x a_nil))).x (g_tup rfl (gs_cons (g_name 2 nd rfl (.inr rfl)) (gs_cons (g_name 3 nd rfl (.inl rfl)) gs_nil))))
  (s_cons (s_setLc 4 (own := [("_law_power", 12)]) rfl nd rfl rfl (sw_true rfl rfl rfl (by decide +kernel)) (i_range1 (by rfl) z_range (d_add (d_var 3 (pv 3)) (d_int).x).x) (blkOk_by (N := ["_law_table", "_law_telling_here", "_law_matrix_here", "_law_many", "_law_found", "_law_sign", "_law_way", "_law_polynomial", "_law_row", "_law_place", "_law_more", "_law_shifted", "_law_power", "_law_one", "_law_some_here", "_law_other"]) (sc := defScope s__law_poly) (by decide +kernel)) (by decide) (fun _ _ _ _ _ => (g_name 12 nd rfl (.inl rfl))) (fun _ _ _ _ _ => ts_nil) (fun _ _ _ _ _ => (d_lst a_nil)))
  (s_cons (s_for [5, 6, 7, 8, 9, 10, 11, 12] PassesOwn.never rfl (i_seq (((d_call G__law_pairings hgd hr (a_cons (d_var 3 (pv 3)) a_nil))).fr).x) (g_tup rfl (gs_cons (g_name 5 nd rfl (.inl rfl)) (gs_cons (g_name 6 nd rfl (.inl rfl)) gs_nil)))
  (s_cons (s_set nd rfl (.inl rfl) ((d_lst (a_cons ((d_tup (a_cons ((d_tup (a_cons (d_int).x (a_cons ((d_tup (a_cons (d_var 5 (pv 5)) (a_cons (d_int).x a_nil)))).x a_nil)))).x a_nil))).x a_nil))).fr)
  (s_cons (s_for [8, 9, 10, 11] PassesOwn.never rfl (i_enum (by rfl) z_enumerate (d_var 6 (pv 6))) (g_tup rfl (gs_cons (g_name 8 nd rfl (.inr rfl)) (gs_cons (g_name 9 nd rfl (.inr rfl)) gs_nil)))
  (s_cons (s_set nd rfl (.inl rfl) (d_add (d_lc (own := [("_law_one", 13)]) rfl nd (i_seq (d_var 7 (pv 7))) (blkOk_by (N := ["_law_table", "_law_telling_here", "_law_matrix_here", "_law_many", "_law_found", "_law_sign", "_law_way", "_law_polynomial", "_law_row", "_law_place", "_law_more", "_law_shifted", "_law_power", "_law_one", "_law_some_here", "_law_other"]) (sc := defScope s__law_poly) (by decide +kernel)) (by decide) (fun _ _ _ _ _ => (g_name 13 nd rfl (.inl rfl))) (fun _ _ _ _ _ => ts_nil) (fun _ _ _ _ _ => (d_call G__law_times hgd hr (a_cons (d_var 13 (pv 13)) (a_cons ((d_item (d_item (d_var 2 (pv 2)) (d_var 8 (pv 8))).x (d_var 9 (pv 9)))).x a_nil))))).x (d_lst (a_cons ((d_tup a_nil)).x a_nil)).x))
  (s_cons (s_if (t_eq hr (d_var 8 (pv 8)) (d_var 9 (pv 9)))
  (s_cons (s_set nd rfl (.inl rfl) ((d_add (((d_lst (a_cons ((d_tup a_nil)).x a_nil))).fr).x (d_lc (own := [("_law_one", 13)]) rfl nd (i_seq (d_var 7 (pv 7))) (blkOk_by (N := ["_law_table", "_law_telling_here", "_law_matrix_here", "_law_many", "_law_found", "_law_sign", "_law_way", "_law_polynomial", "_law_row", "_law_place", "_law_more", "_law_shifted", "_law_power", "_law_one", "_law_some_here", "_law_other"]) (sc := defScope s__law_poly) (by decide +kernel)) (by decide) (fun _ _ _ _ _ => (g_name 13 nd rfl (.inl rfl))) (fun _ _ _ _ _ => ts_nil) (fun _ _ _ _ _ => (d_call G__law_minus hgd hr (a_cons (d_var 13 (pv 13)) a_nil)))).x)).fr)
  (s_one (s_setLc 10 (own := [("_law_one", 13), ("_law_other", 15)]) rfl nd rfl rfl (sw_true rfl rfl rfl (by decide +kernel)) (i_zip (by rfl) z_zip ((d_mov 10 (pv 10))).x (d_var 11 (pv 11))) (blkOk_by (N := ["_law_table", "_law_telling_here", "_law_matrix_here", "_law_many", "_law_found", "_law_sign", "_law_way", "_law_polynomial", "_law_row", "_law_place", "_law_more", "_law_shifted", "_law_power", "_law_one", "_law_some_here", "_law_other"]) (sc := defScope s__law_poly) (by decide +kernel)) (by decide) (fun _ _ _ _ _ => (g_tup rfl (gs_cons (g_name 13 nd rfl (.inl rfl)) (gs_cons (g_name 15 nd rfl (.inl rfl)) gs_nil)))) (fun _ _ _ _ _ => ts_nil) (fun _ _ _ _ _ => (d_call G__law_total hgd hr (a_cons (((d_lst (a_cons (d_var 13 (pv 13)) (a_cons (d_var 15 (pv 15)) a_nil)))).fr).x a_nil))))))
  s_nil)
  (s_one (s_set nd rfl (.inl rfl) (d_mov 10 (pv 10)))))))
  (s_one (s_for [12] PassesOwn.never rfl (i_enum (by rfl) z_enumerate (((d_slice (d_var 7 (pv 7)) p_none (p_some (d_add (d_var 3 (pv 3)) (d_int).x).x))).fr).x) (g_tup rfl (gs_cons (g_name 12 nd rfl (.inl rfl)) (gs_cons (g_name 13 nd rfl (.inl rfl)) gs_nil)))
  (s_one (s_appIx 4 (pv 4) (d_var 12 (pv 12)) (d_var 13 (pv 13)).fz)))))))
  (s_one (s_ret (d_lc (own := [("_law_some_here", 14)]) rfl nd (i_seq ((d_mov 4 (pv 4))).x) (blkOk_by (N := ["_law_table", "_law_telling_here", "_law_matrix_here", "_law_many", "_law_found", "_law_sign", "_law_way", "_law_polynomial", "_law_row", "_law_place", "_law_more", "_law_shifted", "_law_power", "_law_one", "_law_some_here", "_law_other"]) (sc := defScope s__law_poly) (by decide +kernel)) (by decide) (fun _ _ _ _ _ => (g_name 14 nd rfl (.inl rfl))) (fun _ _ _ _ _ => ts_nil) (fun _ _ _ _ _ => (d_call G__law_total hgd hr (a_cons (d_var 14 (pv 14)) a_nil)))))))))
/-! ### _law_roots_above -/
abbrev s__law_roots_above : Stmt := topS 47
theorem sc__law_roots_above : FnScope ["_law_polynomial", "_law_num", "_law_den", "_law_some_here", "_law_at", "_law_one"] ["_law_polynomial", "_law_num", "_law_den"] (defScope s__law_roots_above) := ⟨rfl, rfl, rfl, by decide +kernel, rfl, by decide +kernel, by decide +kernel⟩
def ce__law_roots_above_1 : EV := (eCall gTup' (aCons true (eBin gAddX true (eBin gMulX true (eBin gIx true (eBin gIx true (eVar 5) (eC (.int 0))) (eC (.int 0))) (eVar 2)) (eBin gMulX true (eVar 4) (eVar 1))) (aCons true (eVar 4) aNil)))
def mb__law_roots_above : SM :=
  (gSeq (gSet 3 (eLc [4, 5] (iEnum' (eVar 0)) (tgT 2 (tgCons (tgN 4) (tgCons (tgN 5) tgNil))) (bOf (eBin gNe true (eVar 5) (eCall gTup' aNil))) ce__law_roots_above_1))
  (gRet (eBin gIx true (eCall (g1 (gMm PySem.W.minD)) (aCons true (eVar 3) aNil)) (eC (.int 1)))))
def m__law_roots_above : Mir := fnM 3 6 mb__law_roots_above
theorem ok__law_roots_above {f : Addr} {fd : FuncData} (F : Fun K "_law_roots_above" "_law_roots_above" s__law_roots_above f fd) (z_enumerate : mg "enumerate" = none) (z_min : mg "min" = none) : FnG P w K mg base 1 f fd ["_law_polynomial", "_law_num", "_law_den"] (spF K m__law_roots_above) :=
  have nd := sc__law_roots_above.nd
  fn_ok F sc__law_roots_above (by decide) fun cdv A outer s H E hgd hr => by
    unfold mb__law_roots_above
    exact (s_cons (s_setLc 3 (own := [("_law_at", 4), ("_law_one", 5)]) rfl nd rfl rfl (sw_true rfl rfl rfl (by decide +kernel)) (i_enum (by rfl) z_enumerate (d_var 0 (pv 0))) (blkOk_by (N := ["_law_polynomial", "_law_num", "_law_den", "_law_some_here", "_law_at", "_law_one"]) (sc := defScope s__law_roots_above) (by decide +kernel)) (by decide) (fun _ _ _ _ _ => (g_tup rfl (gs_cons (g_name 4 nd rfl (.inl rfl)) (gs_cons (g_name 5 nd rfl (.inl rfl)) gs_nil)))) (fun _ _ _ _ _ => (ts_one (t_ne hr (d_var 5 (pv 5)) (d_tup a_nil).x))) (fun _ _ _ _ _ => (d_tup (a_cons ((d_add (d_mul (d_item (d_item (d_var 5 (pv 5)) (d_int).x).x (d_int).x).x (d_var 2 (pv 2))).x (d_mul (d_var 4 (pv 4)) (d_var 1 (pv 1))).x)).x (a_cons (d_var 4 (pv 4)) a_nil)))))
  (s_one (s_ret (d_item (d_min hr (by rfl) (d_var 3 (pv 3)) (by rfl) z_min).x (d_int).x))))
/-! ### law -/
abbrev s_law : Stmt := topS 48
theorem sc_law : FnScope ["_law_script", "_law_bag_here", "_law_turn", "_law_table", "_law_telling_here", "_law_shown", "_law_due", "_law_again", "_law_told", "_law_numbers", "_law_polynomial", "_law_s", "_law_kept", "_law_place"] ["_law_script"] (defScope s_law) := ⟨rfl, rfl, rfl, by decide +kernel, rfl, by decide +kernel, by decide +kernel⟩
def fg_law_1 : GV := (tgN 7)
noncomputable def fb_law_1 : SM :=
  (gSeq (gSet 8 (eCall (gCallF m_polynomial_of) (aCons true (eVar 3) (aCons true (eVar 4) aNil))))
  (gSeq (gIf (bOr (bNot (bOf (eCall (gCallL m__law_alike) (aCons true (eVar 8) (aCons true (eVar 6) aNil))))) (bOf (eBin gNe true (eCall (g1 gRepr) (aCons true (eVar 3) aNil)) (eVar 5))))
  (gRet (eC (.bool false)))
  gNx)
  (gApp 8 (eCall gTup' aNil))))
noncomputable def ce_law_1 : EV := (eIo m__law_number 1 (qIo 1 (qFz (oFr (eIo m__law_some 1 (qIo 1 (qFz (oFr (eCall gLst' (aCons true (eC .none) (aCons true (eC (.int 0)) (aCons true (eC (.int 1)) (aCons true (eC (.int 5)) (aCons true (eUn gNeg (eC (.int 3))) (aCons true (eC (.int 2)) (aCons true (eC (.int 9)) aNil))))))))) qNil)))) (qFz (eC (.int 2)) qNil))))
def fg_law_2 : GV := (tgN 10)
noncomputable def fb_law_2 : SM :=
  (gSeq (gPar 11 12 (oFr (eIo m__law_at_number 1 (qIo 1 qNil))) (eCall (g1 gRepr) (aCons true (eVar 10) aNil)))
  (gSeq (gIf (bNot (bOf (eCall (gCallF m__law_alike) (aCons true (oFr (eCall (gCallF m_roots_above) (aCons true (eVar 10) (aCons true (eVar 11) aNil)))) (aCons true (oFr (eCall (gCallF m__law_roots_above) (aCons true (eVar 10) (aCons true (eBin gIx true (eVar 11) (eC (.int 0))) (aCons true (eBin gIx true (eVar 11) (eC (.int 1))) aNil))))) aNil)))))
  (gRet (eC (.bool false)))
  gNx)
  (gIf (bOf (eBin gNe true (eCall (g1 gRepr) (aCons true (eVar 10) aNil)) (eVar 12)))
  (gRet (eC (.bool false)))
  gNx)))
def fg_law_3 : GV := (tgN 2)
noncomputable def fb_law_3 : SM :=
  (gSeq (gSet 3 (oFr (eIo m__law_square 1 (qIo 1 (qFz (eC (.int 4)) qNil)))))
  (gSeq (gPar 4 5 (oFr (eIo m__law_telling 1 (qIo 1 (qFz (eVar 3) qNil)))) (eCall (g1 gRepr) (aCons true (eVar 3) aNil)))
  (gSeq (gSet 6 (oFr (eCall (gCallF m__law_poly) (aCons true (eVar 3) (aCons true (eVar 4) aNil)))))
  (gSeq (gFor [7, 8] (iRange1 (eC (.int 2))) fg_law_1 fb_law_1)
  (gSeq (gSet 9 (eLc [13] (iRange1 (eIo m__law_take 1 (qIo 1 (qFz (eC (.int 7)) qNil)))) (tgN 13) bYes ce_law_1))
  (gSeq (gSet 9 (eBin gAddX false (oFr (eBin gAddX false (eMov 9) (eCall gLst' (aCons true (oFr (eIo m__law_number 1 (qIo 1 (qFz (oFr (eIo m__law_some 1 (qIo 1 (qFz (oFr (eCall gLst' (aCons true (eC (.int 0)) (aCons true (eC (.int 4)) (aCons true (eUn gNeg (eC (.int 2))) aNil))))) qNil)))) (qFz (eC (.int 2)) qNil))))) aNil)))) (eBin gMulX false (oFr (eCall gLst' (aCons true (eCall gTup' aNil) aNil))) (eIo m__law_some 1 (qIo 1 (qFz (oFr (eCall gLst' (aCons true (eC (.int 0)) (aCons true (eC (.int 1)) (aCons true (eC (.int 0)) (aCons true (eC (.int 2)) aNil)))))) qNil))))))
  (gFor [10, 11, 12] (iSeq (eCall gTup' (aCons false (eVar 6) (aCons true (eMov 9) aNil)))) fg_law_2 fb_law_2)))))))
noncomputable def mb_law : SM :=
  (gSeq (gSet 1 (eCall (gCallF m__law_bag) (aCons true (eVar 0) aNil)))
  (gSeq (gFor [2, 3, 4, 5, 6, 7, 8, 9, 10, 11, 12, 13] (iRange1 (eC (.int 8))) fg_law_3 fb_law_3)
  (gRet (eC (.bool true)))))
noncomputable def m_law : Mir := fnM 1 14 mb_law
theorem ok_law {f : Addr} {fd : FuncData} (F : Fun K "law" "law" s_law f fd) (G_polynomial_of : Fd P w K mg base 6 "polynomial_of" m_polynomial_of) (G_roots_above : Fd P w K mg base 2 "roots_above" m_roots_above) (G__law_bag : Fd P w K mg base 1 "_law_bag" m__law_bag) (G__law_take : Fd P w K mg base 1 "_law_take" m__law_take) (G__law_some : Fd P w K mg base 2 "_law_some" m__law_some) (G__law_alike : Fd P w K mg base 1 "_law_alike" m__law_alike) (G__law_number : Fd P w K mg base 4 "_law_number" m__law_number) (G__law_telling : Fd P w K mg base 5 "_law_telling" m__law_telling) (G__law_square : Fd P w K mg base 7 "_law_square" m__law_square) (G__law_at_number : Fd P w K mg base 3 "_law_at_number" m__law_at_number) (G__law_poly : Fd P w K mg base 6 "_law_poly" m__law_poly) (G__law_roots_above : Fd P w K mg base 1 "_law_roots_above" m__law_roots_above) (z_range : mg "range" = none) (z_repr : mg "repr" = none) : FnG P w K mg base 8 f fd ["_law_script"] (spF K m_law) :=
  have nd := sc_law.nd
  fn_ok F sc_law (by decide) fun cdv A outer s H E hgd hr => by
    unfold mb_law
    exact (s_cons (s_set nd rfl (.inr rfl) (d_call G__law_bag hgd hr (a_cons (d_var 0 (pv 0)) a_nil)))
  (s_cons (s_for [2, 3, 4, 5, 6, 7, 8, 9, 10, 11, 12, 13] PassesOwn.never rfl (i_range1 (by rfl) z_range (d_int).x) (g_name 2 nd rfl (.inl rfl))
  (s_cons (s_set nd rfl (.inl rfl) ((d_callIo 1 G__law_square hgd hr (q_io (pv 1) (q_fz (d_int).x q_nil)))).fr)
  (s_cons (s_par rfl nd rfl rfl (by decide) rfl rfl ((d_callIo 1 G__law_telling hgd hr (q_io (pv 1) (q_fz (d_var 3 (pv 3)) q_nil)))).fr (d_repr hgd hr (d_var 3 (pv 3)) (by rfl) z_repr))
  (s_cons (s_set nd rfl (.inl rfl) ((d_call G__law_poly hgd hr (a_cons (d_var 3 (pv 3)) (a_cons (d_var 4 (pv 4)) a_nil)))).fr)
  (s_cons (s_for [7, 8] PassesOwn.never rfl (i_range1 (by rfl) z_range (d_int).x) (g_name 7 nd rfl (.inl rfl))
  (s_cons (s_set nd rfl (.inl rfl) (d_call G_polynomial_of hgd hr (a_cons (d_var 3 (pv 3)) (a_cons (d_var 4 (pv 4)) a_nil))))
  (s_cons (s_if (w_or (t_not (t_val (d_callL G__law_alike hgd hr (a_cons (d_var 8 (pv 8)) (a_cons (d_var 6 (pv 6)) a_nil))))) (w_or1 (t_ne hr (d_repr hgd hr (d_var 3 (pv 3)) (by rfl) z_repr).x (d_var 5 (pv 5))))).t
  (s_one (s_ret d_bl))
  s_nil)
  (s_one (s_app 8 (pv 8) (d_tup a_nil))))))
  (s_cons (s_setLc 9 (own := [("_law_place", 13)]) rfl nd rfl rfl (sw_true rfl rfl rfl (by decide +kernel)) (i_range1 (by rfl) z_range (d_callIo 1 G__law_take hgd hr (q_io (pv 1) (q_fz (d_int).x q_nil))).x) (blkOk_by (N := ["_law_script", "_law_bag_here", "_law_turn", "_law_table", "_law_telling_here", "_law_shown", "_law_due", "_law_again", "_law_told", "_law_numbers", "_law_polynomial", "_law_s", "_law_kept", "_law_place"]) (sc := defScope s_law) (by decide +kernel)) (by decide) (fun _ _ _ _ _ => (g_name 13 nd rfl (.inl rfl))) (fun _ _ _ _ _ => ts_nil) (fun _ _ _ _ _ => (d_callIo 1 G__law_number hgd hr (q_io (pv 1) (q_fz (((d_callIo 1 G__law_some hgd hr (q_io (pv 1) (q_fz (((d_lst (a_cons (d_non).x (a_cons (d_int).x (a_cons (d_int).x (a_cons (d_int).x (a_cons ((d_neg (d_int).x)).x (a_cons (d_int).x (a_cons (d_int).x a_nil))))))))).fr).x q_nil)))).fr).x (q_fz (d_int).x q_nil))))))
  (s_cons (s_set nd rfl (.inl rfl) (d_add (((d_add ((d_mov 9 (pv 9))).x (d_lst (a_cons (((d_callIo 1 G__law_number hgd hr (q_io (pv 1) (q_fz (((d_callIo 1 G__law_some hgd hr (q_io (pv 1) (q_fz (((d_lst (a_cons (d_int).x (a_cons (d_int).x (a_cons ((d_neg (d_int).x)).x a_nil))))).fr).x q_nil)))).fr).x (q_fz (d_int).x q_nil))))).fr).x a_nil)).x)).fr).x (d_mul (((d_lst (a_cons ((d_tup a_nil)).x a_nil))).fr).x (d_callIo 1 G__law_some hgd hr (q_io (pv 1) (q_fz (((d_lst (a_cons (d_int).x (a_cons (d_int).x (a_cons (d_int).x (a_cons (d_int).x a_nil)))))).fr).x q_nil))).x).x))
  (s_one (s_for [10, 11, 12] PassesOwn.never rfl (i_seq ((d_tup (a_cons (d_var 6 (pv 6)) (a_cons ((d_mov 9 (pv 9))).x a_nil)))).x) (g_name 10 nd rfl (.inl rfl))
  (s_cons (s_par rfl nd rfl rfl (by decide) rfl rfl ((d_callIo 1 G__law_at_number hgd hr (q_io (pv 1) q_nil))).fr (d_repr hgd hr (d_var 10 (pv 10)) (by rfl) z_repr))
  (s_cons (s_if (t_not (t_val (d_call G__law_alike hgd hr (a_cons (((d_call G_roots_above hgd hr (a_cons (d_var 10 (pv 10)) (a_cons (d_var 11 (pv 11)) a_nil)))).fr).x (a_cons (((d_call G__law_roots_above hgd hr (a_cons (d_var 10 (pv 10)) (a_cons ((d_item (d_var 11 (pv 11)) (d_int).x)).x (a_cons ((d_item (d_var 11 (pv 11)) (d_int).x)).x a_nil))))).fr).x a_nil)))))
  (s_one (s_ret d_bl))
  s_nil)
  (s_one (s_if (t_ne hr (d_repr hgd hr (d_var 10 (pv 10)) (by rfl) z_repr).x (d_var 12 (pv 12)))
  (s_one (s_ret d_bl))
  s_nil)))))))))))))
  (s_one (s_ret d_bl))))
end
theorem all_mk {l : PySem.W.OpenLaw} {w : World} {K : Frg} {h : Heap} {mg : Str → Option Value} {fa : Addr} (X : K.In h) (G : h.Ns mainGlobals mg) (hfa : mg "law" = some (.ref fa))
    {f_0 : Addr} {od_0 an_0 : Option Addr} {sl_0 : Array (Option Value)} {oc_0 kV_0 dc_0 pm_0 cd_0 ct_0 : Value}
    (a_0 : PySem.W.nsIn K mainGlobals "lowest" = some (some (.ref f_0))) (l_0 : K.lookup f_0 = some ⟨oc_0, od_0, .func (PySem.W.fnOf "lowest" "lowest" (defArgs s_lowest) (defBody s_lowest) (defScope s_lowest) .none kV_0 dc_0 pm_0 an_0 cd_0 ct_0), sl_0⟩) (c_0 : PySem.W.codeIn K cd_0 "lowest" = true) (k_0 : PySem.W.keepIn K (.ref f_0) = true)
    {f_1 : Addr} {od_1 an_1 : Option Addr} {sl_1 : Array (Option Value)} {oc_1 kV_1 dc_1 pm_1 cd_1 ct_1 : Value}
    (a_1 : PySem.W.nsIn K mainGlobals "term" = some (some (.ref f_1))) (l_1 : K.lookup f_1 = some ⟨oc_1, od_1, .func (PySem.W.fnOf "term" "term" (defArgs s_term) (defBody s_term) (defScope s_term) .none kV_1 dc_1 pm_1 an_1 cd_1 ct_1), sl_1⟩) (c_1 : PySem.W.codeIn K cd_1 "term" = true) (k_1 : PySem.W.keepIn K (.ref f_1) = true)
    {f_2 : Addr} {od_2 an_2 : Option Addr} {sl_2 : Array (Option Value)} {oc_2 kV_2 dc_2 pm_2 cd_2 ct_2 : Value}
    (a_2 : PySem.W.nsIn K mainGlobals "order_of" = some (some (.ref f_2))) (l_2 : K.lookup f_2 = some ⟨oc_2, od_2, .func (PySem.W.fnOf "order_of" "order_of" (defArgs s_order_of) (defBody s_order_of) (defScope s_order_of) .none kV_2 dc_2 pm_2 an_2 cd_2 ct_2), sl_2⟩) (c_2 : PySem.W.codeIn K cd_2 "order_of" = true) (k_2 : PySem.W.keepIn K (.ref f_2) = true)
    {f_3 : Addr} {od_3 an_3 : Option Addr} {sl_3 : Array (Option Value)} {oc_3 kV_3 dc_3 pm_3 cd_3 ct_3 : Value}
    (a_3 : PySem.W.nsIn K mainGlobals "gathered" = some (some (.ref f_3))) (l_3 : K.lookup f_3 = some ⟨oc_3, od_3, .func (PySem.W.fnOf "gathered" "gathered" (defArgs s_gathered) (defBody s_gathered) (defScope s_gathered) .none kV_3 dc_3 pm_3 an_3 cd_3 ct_3), sl_3⟩) (c_3 : PySem.W.codeIn K cd_3 "gathered" = true) (k_3 : PySem.W.keepIn K (.ref f_3) = true)
    {f_4 : Addr} {od_4 an_4 : Option Addr} {sl_4 : Array (Option Value)} {oc_4 kV_4 dc_4 pm_4 cd_4 ct_4 : Value}
    (a_4 : PySem.W.nsIn K mainGlobals "total" = some (some (.ref f_4))) (l_4 : K.lookup f_4 = some ⟨oc_4, od_4, .func (PySem.W.fnOf "total" "total" (defArgs s_total) (defBody s_total) (defScope s_total) .none kV_4 dc_4 pm_4 an_4 cd_4 ct_4), sl_4⟩) (c_4 : PySem.W.codeIn K cd_4 "total" = true) (k_4 : PySem.W.keepIn K (.ref f_4) = true)
    {f_5 : Addr} {od_5 an_5 : Option Addr} {sl_5 : Array (Option Value)} {oc_5 kV_5 dc_5 pm_5 cd_5 ct_5 : Value}
    (a_5 : PySem.W.nsIn K mainGlobals "times" = some (some (.ref f_5))) (l_5 : K.lookup f_5 = some ⟨oc_5, od_5, .func (PySem.W.fnOf "times" "times" (defArgs s_times) (defBody s_times) (defScope s_times) .none kV_5 dc_5 pm_5 an_5 cd_5 ct_5), sl_5⟩) (c_5 : PySem.W.codeIn K cd_5 "times" = true) (k_5 : PySem.W.keepIn K (.ref f_5) = true)
    {f_6 : Addr} {od_6 an_6 : Option Addr} {sl_6 : Array (Option Value)} {oc_6 kV_6 dc_6 pm_6 cd_6 ct_6 : Value}
    (a_6 : PySem.W.nsIn K mainGlobals "matrix_of" = some (some (.ref f_6))) (l_6 : K.lookup f_6 = some ⟨oc_6, od_6, .func (PySem.W.fnOf "matrix_of" "matrix_of" (defArgs s_matrix_of) (defBody s_matrix_of) (defScope s_matrix_of) .none kV_6 dc_6 pm_6 an_6 cd_6 ct_6), sl_6⟩) (c_6 : PySem.W.codeIn K cd_6 "matrix_of" = true) (k_6 : PySem.W.keepIn K (.ref f_6) = true)
    {f_7 : Addr} {od_7 an_7 : Option Addr} {sl_7 : Array (Option Value)} {oc_7 kV_7 dc_7 pm_7 cd_7 ct_7 : Value}
    (a_7 : PySem.W.nsIn K mainGlobals "led_by_number" = some (some (.ref f_7))) (l_7 : K.lookup f_7 = some ⟨oc_7, od_7, .func (PySem.W.fnOf "led_by_number" "led_by_number" (defArgs s_led_by_number) (defBody s_led_by_number) (defScope s_led_by_number) .none kV_7 dc_7 pm_7 an_7 cd_7 ct_7), sl_7⟩) (c_7 : PySem.W.codeIn K cd_7 "led_by_number" = true) (k_7 : PySem.W.keepIn K (.ref f_7) = true)
    {f_8 : Addr} {od_8 an_8 : Option Addr} {sl_8 : Array (Option Value)} {oc_8 kV_8 dc_8 pm_8 cd_8 ct_8 : Value}
    (a_8 : PySem.W.nsIn K mainGlobals "added" = some (some (.ref f_8))) (l_8 : K.lookup f_8 = some ⟨oc_8, od_8, .func (PySem.W.fnOf "added" "added" (defArgs s_added) (defBody s_added) (defScope s_added) .none kV_8 dc_8 pm_8 an_8 cd_8 ct_8), sl_8⟩) (c_8 : PySem.W.codeIn K cd_8 "added" = true) (k_8 : PySem.W.keepIn K (.ref f_8) = true)
    {f_9 : Addr} {od_9 an_9 : Option Addr} {sl_9 : Array (Option Value)} {oc_9 kV_9 dc_9 pm_9 cd_9 ct_9 : Value}
    (a_9 : PySem.W.nsIn K mainGlobals "times_entry" = some (some (.ref f_9))) (l_9 : K.lookup f_9 = some ⟨oc_9, od_9, .func (PySem.W.fnOf "times_entry" "times_entry" (defArgs s_times_entry) (defBody s_times_entry) (defScope s_times_entry) .none kV_9 dc_9 pm_9 an_9 cd_9 ct_9), sl_9⟩) (c_9 : PySem.W.codeIn K cd_9 "times_entry" = true) (k_9 : PySem.W.keepIn K (.ref f_9) = true)
    {f_10 : Addr} {od_10 an_10 : Option Addr} {sl_10 : Array (Option Value)} {oc_10 kV_10 dc_10 pm_10 cd_10 ct_10 : Value}
    (a_10 : PySem.W.nsIn K mainGlobals "polynomial_of" = some (some (.ref f_10))) (l_10 : K.lookup f_10 = some ⟨oc_10, od_10, .func (PySem.W.fnOf "polynomial_of" "polynomial_of" (defArgs s_polynomial_of) (defBody s_polynomial_of) (defScope s_polynomial_of) .none kV_10 dc_10 pm_10 an_10 cd_10 ct_10), sl_10⟩) (c_10 : PySem.W.codeIn K cd_10 "polynomial_of" = true) (k_10 : PySem.W.keepIn K (.ref f_10) = true)
    {f_11 : Addr} {od_11 an_11 : Option Addr} {sl_11 : Array (Option Value)} {oc_11 kV_11 dc_11 pm_11 cd_11 ct_11 : Value}
    (a_11 : PySem.W.nsIn K mainGlobals "roots_above" = some (some (.ref f_11))) (l_11 : K.lookup f_11 = some ⟨oc_11, od_11, .func (PySem.W.fnOf "roots_above" "roots_above" (defArgs s_roots_above) (defBody s_roots_above) (defScope s_roots_above) .none kV_11 dc_11 pm_11 an_11 cd_11 ct_11), sl_11⟩) (c_11 : PySem.W.codeIn K cd_11 "roots_above" = true) (k_11 : PySem.W.keepIn K (.ref f_11) = true)
    {f_12 : Addr} {od_12 an_12 : Option Addr} {sl_12 : Array (Option Value)} {oc_12 kV_12 dc_12 pm_12 cd_12 ct_12 : Value}
    (a_12 : PySem.W.nsIn K mainGlobals "_law_bag" = some (some (.ref f_12))) (l_12 : K.lookup f_12 = some ⟨oc_12, od_12, .func (PySem.W.fnOf "_law_bag" "_law_bag" (defArgs s__law_bag) (defBody s__law_bag) (defScope s__law_bag) .none kV_12 dc_12 pm_12 an_12 cd_12 ct_12), sl_12⟩) (c_12 : PySem.W.codeIn K cd_12 "_law_bag" = true) (k_12 : PySem.W.keepIn K (.ref f_12) = true)
    {f_13 : Addr} {od_13 an_13 : Option Addr} {sl_13 : Array (Option Value)} {oc_13 kV_13 dc_13 pm_13 cd_13 ct_13 : Value}
    (a_13 : PySem.W.nsIn K mainGlobals "_law_take" = some (some (.ref f_13))) (l_13 : K.lookup f_13 = some ⟨oc_13, od_13, .func (PySem.W.fnOf "_law_take" "_law_take" (defArgs s__law_take) (defBody s__law_take) (defScope s__law_take) .none kV_13 dc_13 pm_13 an_13 cd_13 ct_13), sl_13⟩) (c_13 : PySem.W.codeIn K cd_13 "_law_take" = true) (k_13 : PySem.W.keepIn K (.ref f_13) = true)
    {f_14 : Addr} {od_14 an_14 : Option Addr} {sl_14 : Array (Option Value)} {oc_14 kV_14 dc_14 pm_14 cd_14 ct_14 : Value}
    (a_14 : PySem.W.nsIn K mainGlobals "_law_some" = some (some (.ref f_14))) (l_14 : K.lookup f_14 = some ⟨oc_14, od_14, .func (PySem.W.fnOf "_law_some" "_law_some" (defArgs s__law_some) (defBody s__law_some) (defScope s__law_some) .none kV_14 dc_14 pm_14 an_14 cd_14 ct_14), sl_14⟩) (c_14 : PySem.W.codeIn K cd_14 "_law_some" = true) (k_14 : PySem.W.keepIn K (.ref f_14) = true)
    {f_15 : Addr} {od_15 an_15 : Option Addr} {sl_15 : Array (Option Value)} {oc_15 kV_15 dc_15 pm_15 cd_15 ct_15 : Value}
    (a_15 : PySem.W.nsIn K mainGlobals "_law_mixed" = some (some (.ref f_15))) (l_15 : K.lookup f_15 = some ⟨oc_15, od_15, .func (PySem.W.fnOf "_law_mixed" "_law_mixed" (defArgs s__law_mixed) (defBody s__law_mixed) (defScope s__law_mixed) .none kV_15 dc_15 pm_15 an_15 cd_15 ct_15), sl_15⟩) (c_15 : PySem.W.codeIn K cd_15 "_law_mixed" = true) (k_15 : PySem.W.keepIn K (.ref f_15) = true)
    {f_16 : Addr} {od_16 an_16 : Option Addr} {sl_16 : Array (Option Value)} {oc_16 kV_16 dc_16 pm_16 cd_16 ct_16 : Value}
    (a_16 : PySem.W.nsIn K mainGlobals "_law_alike" = some (some (.ref f_16))) (l_16 : K.lookup f_16 = some ⟨oc_16, od_16, .func (PySem.W.fnOf "_law_alike" "_law_alike" (defArgs s__law_alike) (defBody s__law_alike) (defScope s__law_alike) .none kV_16 dc_16 pm_16 an_16 cd_16 ct_16), sl_16⟩) (c_16 : PySem.W.codeIn K cd_16 "_law_alike" = true) (k_16 : PySem.W.keepIn K (.ref f_16) = true)
    {f_17 : Addr} {od_17 an_17 : Option Addr} {sl_17 : Array (Option Value)} {oc_17 kV_17 dc_17 pm_17 cd_17 ct_17 : Value}
    (a_17 : PySem.W.nsIn K mainGlobals "_law_greatest_divisor" = some (some (.ref f_17))) (l_17 : K.lookup f_17 = some ⟨oc_17, od_17, .func (PySem.W.fnOf "_law_greatest_divisor" "_law_greatest_divisor" (defArgs s__law_greatest_divisor) (defBody s__law_greatest_divisor) (defScope s__law_greatest_divisor) .none kV_17 dc_17 pm_17 an_17 cd_17 ct_17), sl_17⟩) (c_17 : PySem.W.codeIn K cd_17 "_law_greatest_divisor" = true) (k_17 : PySem.W.keepIn K (.ref f_17) = true)
    {f_18 : Addr} {od_18 an_18 : Option Addr} {sl_18 : Array (Option Value)} {oc_18 kV_18 dc_18 pm_18 cd_18 ct_18 : Value}
    (a_18 : PySem.W.nsIn K mainGlobals "_law_fraction" = some (some (.ref f_18))) (l_18 : K.lookup f_18 = some ⟨oc_18, od_18, .func (PySem.W.fnOf "_law_fraction" "_law_fraction" (defArgs s__law_fraction) (defBody s__law_fraction) (defScope s__law_fraction) .none kV_18 dc_18 pm_18 an_18 cd_18 ct_18), sl_18⟩) (c_18 : PySem.W.codeIn K cd_18 "_law_fraction" = true) (k_18 : PySem.W.keepIn K (.ref f_18) = true)
    {f_19 : Addr} {od_19 an_19 : Option Addr} {sl_19 : Array (Option Value)} {oc_19 kV_19 dc_19 pm_19 cd_19 ct_19 : Value}
    (a_19 : PySem.W.nsIn K mainGlobals "_law_factor" = some (some (.ref f_19))) (l_19 : K.lookup f_19 = some ⟨oc_19, od_19, .func (PySem.W.fnOf "_law_factor" "_law_factor" (defArgs s__law_factor) (defBody s__law_factor) (defScope s__law_factor) .none kV_19 dc_19 pm_19 an_19 cd_19 ct_19), sl_19⟩) (c_19 : PySem.W.codeIn K cd_19 "_law_factor" = true) (k_19 : PySem.W.keepIn K (.ref f_19) = true)
    {f_20 : Addr} {od_20 an_20 : Option Addr} {sl_20 : Array (Option Value)} {oc_20 kV_20 dc_20 pm_20 cd_20 ct_20 : Value}
    (a_20 : PySem.W.nsIn K mainGlobals "_law_summed" = some (some (.ref f_20))) (l_20 : K.lookup f_20 = some ⟨oc_20, od_20, .func (PySem.W.fnOf "_law_summed" "_law_summed" (defArgs s__law_summed) (defBody s__law_summed) (defScope s__law_summed) .none kV_20 dc_20 pm_20 an_20 cd_20 ct_20), sl_20⟩) (c_20 : PySem.W.codeIn K cd_20 "_law_summed" = true) (k_20 : PySem.W.keepIn K (.ref f_20) = true)
    {f_21 : Addr} {od_21 an_21 : Option Addr} {sl_21 : Array (Option Value)} {oc_21 kV_21 dc_21 pm_21 cd_21 ct_21 : Value}
    (a_21 : PySem.W.nsIn K mainGlobals "_law_total" = some (some (.ref f_21))) (l_21 : K.lookup f_21 = some ⟨oc_21, od_21, .func (PySem.W.fnOf "_law_total" "_law_total" (defArgs s__law_total) (defBody s__law_total) (defScope s__law_total) .none kV_21 dc_21 pm_21 an_21 cd_21 ct_21), sl_21⟩) (c_21 : PySem.W.codeIn K cd_21 "_law_total" = true) (k_21 : PySem.W.keepIn K (.ref f_21) = true)
    {f_22 : Addr} {od_22 an_22 : Option Addr} {sl_22 : Array (Option Value)} {oc_22 kV_22 dc_22 pm_22 cd_22 ct_22 : Value}
    (a_22 : PySem.W.nsIn K mainGlobals "_law_times" = some (some (.ref f_22))) (l_22 : K.lookup f_22 = some ⟨oc_22, od_22, .func (PySem.W.fnOf "_law_times" "_law_times" (defArgs s__law_times) (defBody s__law_times) (defScope s__law_times) .none kV_22 dc_22 pm_22 an_22 cd_22 ct_22), sl_22⟩) (c_22 : PySem.W.codeIn K cd_22 "_law_times" = true) (k_22 : PySem.W.keepIn K (.ref f_22) = true)
    {f_23 : Addr} {od_23 an_23 : Option Addr} {sl_23 : Array (Option Value)} {oc_23 kV_23 dc_23 pm_23 cd_23 ct_23 : Value}
    (a_23 : PySem.W.nsIn K mainGlobals "_law_minus" = some (some (.ref f_23))) (l_23 : K.lookup f_23 = some ⟨oc_23, od_23, .func (PySem.W.fnOf "_law_minus" "_law_minus" (defArgs s__law_minus) (defBody s__law_minus) (defScope s__law_minus) .none kV_23 dc_23 pm_23 an_23 cd_23 ct_23), sl_23⟩) (c_23 : PySem.W.codeIn K cd_23 "_law_minus" = true) (k_23 : PySem.W.keepIn K (.ref f_23) = true)
    {f_24 : Addr} {od_24 an_24 : Option Addr} {sl_24 : Array (Option Value)} {oc_24 kV_24 dc_24 pm_24 cd_24 ct_24 : Value}
    (a_24 : PySem.W.nsIn K mainGlobals "_law_number" = some (some (.ref f_24))) (l_24 : K.lookup f_24 = some ⟨oc_24, od_24, .func (PySem.W.fnOf "_law_number" "_law_number" (defArgs s__law_number) (defBody s__law_number) (defScope s__law_number) .none kV_24 dc_24 pm_24 an_24 cd_24 ct_24), sl_24⟩) (c_24 : PySem.W.codeIn K cd_24 "_law_number" = true) (k_24 : PySem.W.keepIn K (.ref f_24) = true)
    {f_25 : Addr} {od_25 an_25 : Option Addr} {sl_25 : Array (Option Value)} {oc_25 kV_25 dc_25 pm_25 cd_25 ct_25 : Value}
    (a_25 : PySem.W.nsIn K mainGlobals "_law_within" = some (some (.ref f_25))) (l_25 : K.lookup f_25 = some ⟨oc_25, od_25, .func (PySem.W.fnOf "_law_within" "_law_within" (defArgs s__law_within) (defBody s__law_within) (defScope s__law_within) .none kV_25 dc_25 pm_25 an_25 cd_25 ct_25), sl_25⟩) (c_25 : PySem.W.codeIn K cd_25 "_law_within" = true) (k_25 : PySem.W.keepIn K (.ref f_25) = true)
    {f_26 : Addr} {od_26 an_26 : Option Addr} {sl_26 : Array (Option Value)} {oc_26 kV_26 dc_26 pm_26 cd_26 ct_26 : Value}
    (a_26 : PySem.W.nsIn K mainGlobals "_law_bounds" = some (some (.ref f_26))) (l_26 : K.lookup f_26 = some ⟨oc_26, od_26, .func (PySem.W.fnOf "_law_bounds" "_law_bounds" (defArgs s__law_bounds) (defBody s__law_bounds) (defScope s__law_bounds) .none kV_26 dc_26 pm_26 an_26 cd_26 ct_26), sl_26⟩) (c_26 : PySem.W.codeIn K cd_26 "_law_bounds" = true) (k_26 : PySem.W.keepIn K (.ref f_26) = true)
    {f_27 : Addr} {od_27 an_27 : Option Addr} {sl_27 : Array (Option Value)} {oc_27 kV_27 dc_27 pm_27 cd_27 ct_27 : Value}
    (a_27 : PySem.W.nsIn K mainGlobals "_law_any_side" = some (some (.ref f_27))) (l_27 : K.lookup f_27 = some ⟨oc_27, od_27, .func (PySem.W.fnOf "_law_any_side" "_law_any_side" (defArgs s__law_any_side) (defBody s__law_any_side) (defScope s__law_any_side) .none kV_27 dc_27 pm_27 an_27 cd_27 ct_27), sl_27⟩) (c_27 : PySem.W.codeIn K cd_27 "_law_any_side" = true) (k_27 : PySem.W.keepIn K (.ref f_27) = true)
    {f_28 : Addr} {od_28 an_28 : Option Addr} {sl_28 : Array (Option Value)} {oc_28 kV_28 dc_28 pm_28 cd_28 ct_28 : Value}
    (a_28 : PySem.W.nsIn K mainGlobals "_law_any_row" = some (some (.ref f_28))) (l_28 : K.lookup f_28 = some ⟨oc_28, od_28, .func (PySem.W.fnOf "_law_any_row" "_law_any_row" (defArgs s__law_any_row) (defBody s__law_any_row) (defScope s__law_any_row) .none kV_28 dc_28 pm_28 an_28 cd_28 ct_28), sl_28⟩) (c_28 : PySem.W.codeIn K cd_28 "_law_any_row" = true) (k_28 : PySem.W.keepIn K (.ref f_28) = true)
    {f_29 : Addr} {od_29 an_29 : Option Addr} {sl_29 : Array (Option Value)} {oc_29 kV_29 dc_29 pm_29 cd_29 ct_29 : Value}
    (a_29 : PySem.W.nsIn K mainGlobals "_law_any_table" = some (some (.ref f_29))) (l_29 : K.lookup f_29 = some ⟨oc_29, od_29, .func (PySem.W.fnOf "_law_any_table" "_law_any_table" (defArgs s__law_any_table) (defBody s__law_any_table) (defScope s__law_any_table) .none kV_29 dc_29 pm_29 an_29 cd_29 ct_29), sl_29⟩) (c_29 : PySem.W.codeIn K cd_29 "_law_any_table" = true) (k_29 : PySem.W.keepIn K (.ref f_29) = true)
    {f_30 : Addr} {od_30 an_30 : Option Addr} {sl_30 : Array (Option Value)} {oc_30 kV_30 dc_30 pm_30 cd_30 ct_30 : Value}
    (a_30 : PySem.W.nsIn K mainGlobals "_law_own_sides" = some (some (.ref f_30))) (l_30 : K.lookup f_30 = some ⟨oc_30, od_30, .func (PySem.W.fnOf "_law_own_sides" "_law_own_sides" (defArgs s__law_own_sides) (defBody s__law_own_sides) (defScope s__law_own_sides) .none kV_30 dc_30 pm_30 an_30 cd_30 ct_30), sl_30⟩) (c_30 : PySem.W.codeIn K cd_30 "_law_own_sides" = true) (k_30 : PySem.W.keepIn K (.ref f_30) = true)
    {f_31 : Addr} {od_31 an_31 : Option Addr} {sl_31 : Array (Option Value)} {oc_31 kV_31 dc_31 pm_31 cd_31 ct_31 : Value}
    (a_31 : PySem.W.nsIn K mainGlobals "_law_silent_rows" = some (some (.ref f_31))) (l_31 : K.lookup f_31 = some ⟨oc_31, od_31, .func (PySem.W.fnOf "_law_silent_rows" "_law_silent_rows" (defArgs s__law_silent_rows) (defBody s__law_silent_rows) (defScope s__law_silent_rows) .none kV_31 dc_31 pm_31 an_31 cd_31 ct_31), sl_31⟩) (c_31 : PySem.W.codeIn K cd_31 "_law_silent_rows" = true) (k_31 : PySem.W.keepIn K (.ref f_31) = true)
    {f_32 : Addr} {od_32 an_32 : Option Addr} {sl_32 : Array (Option Value)} {oc_32 kV_32 dc_32 pm_32 cd_32 ct_32 : Value}
    (a_32 : PySem.W.nsIn K mainGlobals "_law_silent_table" = some (some (.ref f_32))) (l_32 : K.lookup f_32 = some ⟨oc_32, od_32, .func (PySem.W.fnOf "_law_silent_table" "_law_silent_table" (defArgs s__law_silent_table) (defBody s__law_silent_table) (defScope s__law_silent_table) .none kV_32 dc_32 pm_32 an_32 cd_32 ct_32), sl_32⟩) (c_32 : PySem.W.codeIn K cd_32 "_law_silent_table" = true) (k_32 : PySem.W.keepIn K (.ref f_32) = true)
    {f_33 : Addr} {od_33 an_33 : Option Addr} {sl_33 : Array (Option Value)} {oc_33 kV_33 dc_33 pm_33 cd_33 ct_33 : Value}
    (a_33 : PySem.W.nsIn K mainGlobals "_law_telling" = some (some (.ref f_33))) (l_33 : K.lookup f_33 = some ⟨oc_33, od_33, .func (PySem.W.fnOf "_law_telling" "_law_telling" (defArgs s__law_telling) (defBody s__law_telling) (defScope s__law_telling) .none kV_33 dc_33 pm_33 an_33 cd_33 ct_33), sl_33⟩) (c_33 : PySem.W.codeIn K cd_33 "_law_telling" = true) (k_33 : PySem.W.keepIn K (.ref f_33) = true)
    {f_34 : Addr} {od_34 an_34 : Option Addr} {sl_34 : Array (Option Value)} {oc_34 kV_34 dc_34 pm_34 cd_34 ct_34 : Value}
    (a_34 : PySem.W.nsIn K mainGlobals "_law_pairings" = some (some (.ref f_34))) (l_34 : K.lookup f_34 = some ⟨oc_34, od_34, .func (PySem.W.fnOf "_law_pairings" "_law_pairings" (defArgs s__law_pairings) (defBody s__law_pairings) (defScope s__law_pairings) .none kV_34 dc_34 pm_34 an_34 cd_34 ct_34), sl_34⟩) (c_34 : PySem.W.codeIn K cd_34 "_law_pairings" = true) (k_34 : PySem.W.keepIn K (.ref f_34) = true)
    {f_35 : Addr} {od_35 an_35 : Option Addr} {sl_35 : Array (Option Value)} {oc_35 kV_35 dc_35 pm_35 cd_35 ct_35 : Value}
    (a_35 : PySem.W.nsIn K mainGlobals "_law_matrix" = some (some (.ref f_35))) (l_35 : K.lookup f_35 = some ⟨oc_35, od_35, .func (PySem.W.fnOf "_law_matrix" "_law_matrix" (defArgs s__law_matrix) (defBody s__law_matrix) (defScope s__law_matrix) .none kV_35 dc_35 pm_35 an_35 cd_35 ct_35), sl_35⟩) (c_35 : PySem.W.codeIn K cd_35 "_law_matrix" = true) (k_35 : PySem.W.keepIn K (.ref f_35) = true)
    {f_36 : Addr} {od_36 an_36 : Option Addr} {sl_36 : Array (Option Value)} {oc_36 kV_36 dc_36 pm_36 cd_36 ct_36 : Value}
    (a_36 : PySem.W.nsIn K mainGlobals "_law_square" = some (some (.ref f_36))) (l_36 : K.lookup f_36 = some ⟨oc_36, od_36, .func (PySem.W.fnOf "_law_square" "_law_square" (defArgs s__law_square) (defBody s__law_square) (defScope s__law_square) .none kV_36 dc_36 pm_36 an_36 cd_36 ct_36), sl_36⟩) (c_36 : PySem.W.codeIn K cd_36 "_law_square" = true) (k_36 : PySem.W.keepIn K (.ref f_36) = true)
    {f_37 : Addr} {od_37 an_37 : Option Addr} {sl_37 : Array (Option Value)} {oc_37 kV_37 dc_37 pm_37 cd_37 ct_37 : Value}
    (a_37 : PySem.W.nsIn K mainGlobals "_law_at_number" = some (some (.ref f_37))) (l_37 : K.lookup f_37 = some ⟨oc_37, od_37, .func (PySem.W.fnOf "_law_at_number" "_law_at_number" (defArgs s__law_at_number) (defBody s__law_at_number) (defScope s__law_at_number) .none kV_37 dc_37 pm_37 an_37 cd_37 ct_37), sl_37⟩) (c_37 : PySem.W.codeIn K cd_37 "_law_at_number" = true) (k_37 : PySem.W.keepIn K (.ref f_37) = true)
    {f_38 : Addr} {od_38 an_38 : Option Addr} {sl_38 : Array (Option Value)} {oc_38 kV_38 dc_38 pm_38 cd_38 ct_38 : Value}
    (a_38 : PySem.W.nsIn K mainGlobals "_law_poly" = some (some (.ref f_38))) (l_38 : K.lookup f_38 = some ⟨oc_38, od_38, .func (PySem.W.fnOf "_law_poly" "_law_poly" (defArgs s__law_poly) (defBody s__law_poly) (defScope s__law_poly) .none kV_38 dc_38 pm_38 an_38 cd_38 ct_38), sl_38⟩) (c_38 : PySem.W.codeIn K cd_38 "_law_poly" = true) (k_38 : PySem.W.keepIn K (.ref f_38) = true)
    {f_39 : Addr} {od_39 an_39 : Option Addr} {sl_39 : Array (Option Value)} {oc_39 kV_39 dc_39 pm_39 cd_39 ct_39 : Value}
    (a_39 : PySem.W.nsIn K mainGlobals "_law_roots_above" = some (some (.ref f_39))) (l_39 : K.lookup f_39 = some ⟨oc_39, od_39, .func (PySem.W.fnOf "_law_roots_above" "_law_roots_above" (defArgs s__law_roots_above) (defBody s__law_roots_above) (defScope s__law_roots_above) .none kV_39 dc_39 pm_39 an_39 cd_39 ct_39), sl_39⟩) (c_39 : PySem.W.codeIn K cd_39 "_law_roots_above" = true) (k_39 : PySem.W.keepIn K (.ref f_39) = true)
    {f_40 : Addr} {od_40 an_40 : Option Addr} {sl_40 : Array (Option Value)} {oc_40 kV_40 dc_40 pm_40 cd_40 ct_40 : Value}
    (a_40 : PySem.W.nsIn K mainGlobals "law" = some (some (.ref f_40))) (l_40 : K.lookup f_40 = some ⟨oc_40, od_40, .func (PySem.W.fnOf "law" "law" (defArgs s_law) (defBody s_law) (defScope s_law) .none kV_40 dc_40 pm_40 an_40 cd_40 ct_40), sl_40⟩) (c_40 : PySem.W.codeIn K cd_40 "law" = true) (k_40 : PySem.W.keepIn K (.ref f_40) = true)
    (y_abs : PySem.W.nsIn K mainGlobals "abs" = some none)
    (y_enumerate : PySem.W.nsIn K mainGlobals "enumerate" = some none)
    (y_int : PySem.W.nsIn K mainGlobals "int" = some none)
    (y_len : PySem.W.nsIn K mainGlobals "len" = some none)
    (y_list : PySem.W.nsIn K mainGlobals "list" = some none)
    (y_min : PySem.W.nsIn K mainGlobals "min" = some none)
    (y_range : PySem.W.nsIn K mainGlobals "range" = some none)
    (y_repr : PySem.W.nsIn K mainGlobals "repr" = some none)
    (y_sorted : PySem.W.nsIn K mainGlobals "sorted" = some none)
    (y_tuple : PySem.W.nsIn K mainGlobals "tuple" = some none)
    (y_zip : PySem.W.nsIn K mainGlobals "zip" = some none)
    (y_gcd : PySem.W.nsIn K mainGlobals "gcd" = some (some (.builtin "math.gcd")))
    : ∃ fd : FuncData, (∀ (s : Shared) (v : Value), BindsTo s fd ⟨[v], []⟩ [("_law_script", v)]) ∧ ∀ base : Heap, K.In base → base.Ns mainGlobals mg → FnG l.prog w K mg base 8 fa fd ["_law_script"] (spF K m_law) := by
  have e := hfa.symm.trans (PySem.W.mg_of X G a_40)
  cases e
  have z_abs := PySem.W.mg_none_of X G y_abs
  have z_enumerate := PySem.W.mg_none_of X G y_enumerate
  have z_int := PySem.W.mg_none_of X G y_int
  have z_len := PySem.W.mg_none_of X G y_len
  have z_list := PySem.W.mg_none_of X G y_list
  have z_min := PySem.W.mg_none_of X G y_min
  have z_range := PySem.W.mg_none_of X G y_range
  have z_repr := PySem.W.mg_none_of X G y_repr
  have z_sorted := PySem.W.mg_none_of X G y_sorted
  have z_tuple := PySem.W.mg_none_of X G y_tuple
  have z_zip := PySem.W.mg_none_of X G y_zip
  have z_gcd := PySem.W.mg_of X G y_gcd
  have F_0 := fun_mk (st := s_lowest) l_0 c_0 k_0
  have b_0 := F_0.binds (ps := ["num", "den"]) fun _ _ _ _ _ _ us hl => match us, hl with | [_, _], _ => rfl
  have F_1 := fun_mk (st := s_term) l_1 c_1 k_1
  have b_1 := F_1.binds (ps := ["power", "factor"]) fun _ _ _ _ _ _ us hl => match us, hl with | [_, _], _ => rfl
  have F_2 := fun_mk (st := s_order_of) l_2 c_2 k_2
  have b_2 := F_2.binds (ps := ["number"]) fun _ _ _ _ _ _ us hl => match us, hl with | [_], _ => rfl
  have F_3 := fun_mk (st := s_gathered) l_3 c_3 k_3
  have b_3 := F_3.binds (ps := ["terms"]) fun _ _ _ _ _ _ us hl => match us, hl with | [_], _ => rfl
  have F_4 := fun_mk (st := s_total) l_4 c_4 k_4
  have b_4 := F_4.binds (ps := ["numbers"]) fun _ _ _ _ _ _ us hl => match us, hl with | [_], _ => rfl
  have F_5 := fun_mk (st := s_times) l_5 c_5 k_5
  have b_5 := F_5.binds (ps := ["one", "other"]) fun _ _ _ _ _ _ us hl => match us, hl with | [_, _], _ => rfl
  have F_6 := fun_mk (st := s_matrix_of) l_6 c_6 k_6
  have b_6 := F_6.binds (ps := ["table", "telling"]) fun _ _ _ _ _ _ us hl => match us, hl with | [_, _], _ => rfl
  have F_7 := fun_mk (st := s_led_by_number) l_7 c_7 k_7
  have b_7 := F_7.binds (ps := ["polynomial", "number"]) fun _ _ _ _ _ _ us hl => match us, hl with | [_, _], _ => rfl
  have F_8 := fun_mk (st := s_added) l_8 c_8 k_8
  have b_8 := F_8.binds (ps := ["one", "other"]) fun _ _ _ _ _ _ us hl => match us, hl with | [_, _], _ => rfl
  have F_9 := fun_mk (st := s_times_entry) l_9 c_9 k_9
  have b_9 := F_9.binds (ps := ["polynomial", "number", "is_own"]) fun _ _ _ _ _ _ us hl => match us, hl with | [_, _, _], _ => rfl
  have F_10 := fun_mk (st := s_polynomial_of) l_10 c_10 k_10
  have b_10 := F_10.binds (ps := ["table", "telling"]) fun _ _ _ _ _ _ us hl => match us, hl with | [_, _], _ => rfl
  have F_11 := fun_mk (st := s_roots_above) l_11 c_11 k_11
  have b_11 := F_11.binds (ps := ["polynomial", "s"]) fun _ _ _ _ _ _ us hl => match us, hl with | [_, _], _ => rfl
  have F_12 := fun_mk (st := s__law_bag) l_12 c_12 k_12
  have b_12 := F_12.binds (ps := ["_law_script"]) fun _ _ _ _ _ _ us hl => match us, hl with | [_], _ => rfl
  have F_13 := fun_mk (st := s__law_take) l_13 c_13 k_13
  have b_13 := F_13.binds (ps := ["_law_bag_here", "_law_many"]) fun _ _ _ _ _ _ us hl => match us, hl with | [_, _], _ => rfl
  have F_14 := fun_mk (st := s__law_some) l_14 c_14 k_14
  have b_14 := F_14.binds (ps := ["_law_bag_here", "_law_things"]) fun _ _ _ _ _ _ us hl => match us, hl with | [_, _], _ => rfl
  have F_15 := fun_mk (st := s__law_mixed) l_15 c_15 k_15
  have b_15 := F_15.binds (ps := ["_law_bag_here", "_law_things"]) fun _ _ _ _ _ _ us hl => match us, hl with | [_, _], _ => rfl
  have F_16 := fun_mk (st := s__law_alike) l_16 c_16 k_16
  have b_16 := F_16.binds (ps := ["_law_found", "_law_due"]) fun _ _ _ _ _ _ us hl => match us, hl with | [_, _], _ => rfl
  have F_17 := fun_mk (st := s__law_greatest_divisor) l_17 c_17 k_17
  have b_17 := F_17.binds (ps := ["_law_one", "_law_other"]) fun _ _ _ _ _ _ us hl => match us, hl with | [_, _], _ => rfl
  have F_18 := fun_mk (st := s__law_fraction) l_18 c_18 k_18
  have b_18 := F_18.binds (ps := ["_law_num", "_law_den"]) fun _ _ _ _ _ _ us hl => match us, hl with | [_, _], _ => rfl
  have F_19 := fun_mk (st := s__law_factor) l_19 c_19 k_19
  have b_19 := F_19.binds (ps := ["_law_bag_here"]) fun _ _ _ _ _ _ us hl => match us, hl with | [_], _ => rfl
  have F_20 := fun_mk (st := s__law_summed) l_20 c_20 k_20
  have b_20 := F_20.binds (ps := ["_law_terms"]) fun _ _ _ _ _ _ us hl => match us, hl with | [_], _ => rfl
  have F_21 := fun_mk (st := s__law_total) l_21 c_21 k_21
  have b_21 := F_21.binds (ps := ["_law_numbers"]) fun _ _ _ _ _ _ us hl => match us, hl with | [_], _ => rfl
  have F_22 := fun_mk (st := s__law_times) l_22 c_22 k_22
  have b_22 := F_22.binds (ps := ["_law_one", "_law_other"]) fun _ _ _ _ _ _ us hl => match us, hl with | [_, _], _ => rfl
  have F_23 := fun_mk (st := s__law_minus) l_23 c_23 k_23
  have b_23 := F_23.binds (ps := ["_law_number_here"]) fun _ _ _ _ _ _ us hl => match us, hl with | [_], _ => rfl
  have F_24 := fun_mk (st := s__law_number) l_24 c_24 k_24
  have b_24 := F_24.binds (ps := ["_law_bag_here", "_law_order", "_law_most"]) fun _ _ _ _ _ _ us hl => match us, hl with | [_, _, _], _ => rfl
  have F_25 := fun_mk (st := s__law_within) l_25 c_25 k_25
  have b_25 := F_25.binds (ps := ["_law_bag_here", "_law_least", "_law_greatest"]) fun _ _ _ _ _ _ us hl => match us, hl with | [_, _, _], _ => rfl
  have F_26 := fun_mk (st := s__law_bounds) l_26 c_26 k_26
  have b_26 := F_26.binds (ps := ["_law_bag_here", "_law_least"]) fun _ _ _ _ _ _ us hl => match us, hl with | [_, _], _ => rfl
  have F_27 := fun_mk (st := s__law_any_side) l_27 c_27 k_27
  have b_27 := F_27.binds (ps := ["_law_bag_here", "_law_many"]) fun _ _ _ _ _ _ us hl => match us, hl with | [_, _], _ => rfl
  have F_28 := fun_mk (st := s__law_any_row) l_28 c_28 k_28
  have b_28 := F_28.binds (ps := ["_law_bag_here", "_law_many"]) fun _ _ _ _ _ _ us hl => match us, hl with | [_, _], _ => rfl
  have F_29 := fun_mk (st := s__law_any_table) l_29 c_29 k_29
  have b_29 := F_29.binds (ps := ["_law_bag_here", "_law_many", "_law_most"]) fun _ _ _ _ _ _ us hl => match us, hl with | [_, _, _], _ => rfl
  have F_30 := fun_mk (st := s__law_own_sides) l_30 c_30 k_30
  have b_30 := F_30.binds (ps := ["_law_bag_here", "_law_own", "_law_high", "_law_is_told", "_law_is_twice"]) fun _ _ _ _ _ _ us hl => match us, hl with | [_, _, _, _, _], _ => rfl
  have F_31 := fun_mk (st := s__law_silent_rows) l_31 c_31 k_31
  have b_31 := F_31.binds (ps := ["_law_bag_here", "_law_many", "_law_is_told", "_law_is_twice"]) fun _ _ _ _ _ _ us hl => match us, hl with | [_, _, _, _], _ => rfl
  have F_32 := fun_mk (st := s__law_silent_table) l_32 c_32 k_32
  have b_32 := F_32.binds (ps := ["_law_bag_here", "_law_many", "_law_is_told"]) fun _ _ _ _ _ _ us hl => match us, hl with | [_, _, _], _ => rfl
  have F_33 := fun_mk (st := s__law_telling) l_33 c_33 k_33
  have b_33 := F_33.binds (ps := ["_law_bag_here", "_law_table"]) fun _ _ _ _ _ _ us hl => match us, hl with | [_, _], _ => rfl
  have F_34 := fun_mk (st := s__law_pairings) l_34 c_34 k_34
  have b_34 := F_34.binds (ps := ["_law_many"]) fun _ _ _ _ _ _ us hl => match us, hl with | [_], _ => rfl
  have F_35 := fun_mk (st := s__law_matrix) l_35 c_35 k_35
  have b_35 := F_35.binds (ps := ["_law_table", "_law_telling_here"]) fun _ _ _ _ _ _ us hl => match us, hl with | [_, _], _ => rfl
  have F_36 := fun_mk (st := s__law_square) l_36 c_36 k_36
  have b_36 := F_36.binds (ps := ["_law_bag_here", "_law_most"]) fun _ _ _ _ _ _ us hl => match us, hl with | [_, _], _ => rfl
  have F_37 := fun_mk (st := s__law_at_number) l_37 c_37 k_37
  have b_37 := F_37.binds (ps := ["_law_bag_here"]) fun _ _ _ _ _ _ us hl => match us, hl with | [_], _ => rfl
  have F_38 := fun_mk (st := s__law_poly) l_38 c_38 k_38
  have b_38 := F_38.binds (ps := ["_law_table", "_law_telling_here"]) fun _ _ _ _ _ _ us hl => match us, hl with | [_, _], _ => rfl
  have F_39 := fun_mk (st := s__law_roots_above) l_39 c_39 k_39
  have b_39 := F_39.binds (ps := ["_law_polynomial", "_law_num", "_law_den"]) fun _ _ _ _ _ _ us hl => match us, hl with | [_, _, _], _ => rfl
  have F_40 := fun_mk (st := s_law) l_40 c_40 k_40
  refine ⟨PySem.W.fnOf "law" "law" (defArgs s_law) (defBody s_law) (defScope s_law) .none kV_40 dc_40 pm_40 an_40 cd_40 ct_40, fun s v => .of_eq rfl, fun base _ _ => ?_⟩
  have G_lowest : Fd l.prog w K mg base 1 "lowest" m_lowest := ⟨f_0, _, _, ok_lowest F_0 z_gcd, PySem.W.mg_of X G a_0, k_0, b_0⟩
  have G_term : Fd l.prog w K mg base 1 "term" m_term := ⟨f_1, _, _, ok_term F_1, PySem.W.mg_of X G a_1, k_1, b_1⟩
  have G_order_of : Fd l.prog w K mg base 1 "order_of" m_order_of := ⟨f_2, _, _, ok_order_of F_2, PySem.W.mg_of X G a_2, k_2, b_2⟩
  have G_gathered : Fd l.prog w K mg base 2 "gathered" m_gathered := ⟨f_3, _, _, ok_gathered F_3 G_lowest z_sorted z_tuple, PySem.W.mg_of X G a_3, k_3, b_3⟩
  have G_total : Fd l.prog w K mg base 3 "total" m_total := ⟨f_4, _, _, ok_total F_4 G_gathered, PySem.W.mg_of X G a_4, k_4, b_4⟩
  have G_times : Fd l.prog w K mg base 3 "times" m_times := ⟨f_5, _, _, ok_times F_5 G_lowest G_gathered, PySem.W.mg_of X G a_5, k_5, b_5⟩
  have G_matrix_of : Fd l.prog w K mg base 4 "matrix_of" m_matrix_of := ⟨f_6, _, _, ok_matrix_of F_6 G_total z_range z_zip, PySem.W.mg_of X G a_6, k_6, b_6⟩
  have G_led_by_number : Fd l.prog w K mg base 4 "led_by_number" m_led_by_number := ⟨f_7, _, _, ok_led_by_number F_7 G_times, PySem.W.mg_of X G a_7, k_7, b_7⟩
  have G_added : Fd l.prog w K mg base 4 "added" m_added := ⟨f_8, _, _, ok_added F_8 G_total z_zip, PySem.W.mg_of X G a_8, k_8, b_8⟩
  have G_times_entry : Fd l.prog w K mg base 5 "times_entry" m_times_entry := ⟨f_9, _, _, ok_times_entry F_9 G_term G_led_by_number G_added, PySem.W.mg_of X G a_9, k_9, b_9⟩
  have G_polynomial_of : Fd l.prog w K mg base 6 "polynomial_of" m_polynomial_of := ⟨f_10, _, _, ok_polynomial_of F_10 G_term G_matrix_of G_led_by_number G_added G_times_entry z_enumerate z_len z_range z_sorted z_tuple, PySem.W.mg_of X G a_10, k_10, b_10⟩
  have G_roots_above : Fd l.prog w K mg base 2 "roots_above" m_roots_above := ⟨f_11, _, _, ok_roots_above F_11 G_order_of z_enumerate, PySem.W.mg_of X G a_11, k_11, b_11⟩
  have G__law_bag : Fd l.prog w K mg base 1 "_law_bag" m__law_bag := ⟨f_12, _, _, ok__law_bag F_12 z_abs, PySem.W.mg_of X G a_12, k_12, b_12⟩
  have G__law_take : Fd l.prog w K mg base 1 "_law_take" m__law_take := ⟨f_13, _, _, ok__law_take F_13 z_int, PySem.W.mg_of X G a_13, k_13, b_13⟩
  have G__law_some : Fd l.prog w K mg base 2 "_law_some" m__law_some := ⟨f_14, _, _, ok__law_some F_14 G__law_take z_len, PySem.W.mg_of X G a_14, k_14, b_14⟩
  have G__law_mixed : Fd l.prog w K mg base 2 "_law_mixed" m__law_mixed := ⟨f_15, _, _, ok__law_mixed F_15 G__law_take z_len, PySem.W.mg_of X G a_15, k_15, b_15⟩
  have G__law_alike : Fd l.prog w K mg base 1 "_law_alike" m__law_alike := ⟨f_16, _, _, ok__law_alike F_16 z_repr, PySem.W.mg_of X G a_16, k_16, b_16⟩
  have G__law_greatest_divisor : Fd l.prog w K mg base 1 "_law_greatest_divisor" m__law_greatest_divisor := ⟨f_17, _, _, ok__law_greatest_divisor F_17, PySem.W.mg_of X G a_17, k_17, b_17⟩
  have G__law_fraction : Fd l.prog w K mg base 2 "_law_fraction" m__law_fraction := ⟨f_18, _, _, ok__law_fraction F_18 G__law_greatest_divisor z_abs, PySem.W.mg_of X G a_18, k_18, b_18⟩
  have G__law_factor : Fd l.prog w K mg base 3 "_law_factor" m__law_factor := ⟨f_19, _, _, ok__law_factor F_19 G__law_some G__law_fraction, PySem.W.mg_of X G a_19, k_19, b_19⟩
  have G__law_summed : Fd l.prog w K mg base 3 "_law_summed" m__law_summed := ⟨f_20, _, _, ok__law_summed F_20 G__law_fraction z_sorted z_tuple, PySem.W.mg_of X G a_20, k_20, b_20⟩
  have G__law_total : Fd l.prog w K mg base 4 "_law_total" m__law_total := ⟨f_21, _, _, ok__law_total F_21 G__law_summed, PySem.W.mg_of X G a_21, k_21, b_21⟩
  have G__law_times : Fd l.prog w K mg base 4 "_law_times" m__law_times := ⟨f_22, _, _, ok__law_times F_22 G__law_fraction G__law_summed, PySem.W.mg_of X G a_22, k_22, b_22⟩
  have G__law_minus : Fd l.prog w K mg base 1 "_law_minus" m__law_minus := ⟨f_23, _, _, ok__law_minus F_23 z_tuple, PySem.W.mg_of X G a_23, k_23, b_23⟩
  have G__law_number : Fd l.prog w K mg base 4 "_law_number" m__law_number := ⟨f_24, _, _, ok__law_number F_24 G__law_take G__law_factor z_range z_tuple, PySem.W.mg_of X G a_24, k_24, b_24⟩
  have G__law_within : Fd l.prog w K mg base 2 "_law_within" m__law_within := ⟨f_25, _, _, ok__law_within F_25 G__law_take, PySem.W.mg_of X G a_25, k_25, b_25⟩
  have G__law_bounds : Fd l.prog w K mg base 3 "_law_bounds" m__law_bounds := ⟨f_26, _, _, ok__law_bounds F_26 G__law_some, PySem.W.mg_of X G a_26, k_26, b_26⟩
  have G__law_any_side : Fd l.prog w K mg base 4 "_law_any_side" m__law_any_side := ⟨f_27, _, _, ok__law_any_side F_27 G__law_take G__law_some G__law_bounds, PySem.W.mg_of X G a_27, k_27, b_27⟩
  have G__law_any_row : Fd l.prog w K mg base 5 "_law_any_row" m__law_any_row := ⟨f_28, _, _, ok__law_any_row F_28 G__law_take G__law_some G__law_bounds G__law_any_side z_range z_tuple, PySem.W.mg_of X G a_28, k_28, b_28⟩
  have G__law_any_table : Fd l.prog w K mg base 6 "_law_any_table" m__law_any_table := ⟨f_29, _, _, ok__law_any_table F_29 G__law_take G__law_any_row z_range z_tuple, PySem.W.mg_of X G a_29, k_29, b_29⟩
  have G__law_own_sides : Fd l.prog w K mg base 4 "_law_own_sides" m__law_own_sides := ⟨f_30, _, _, ok__law_own_sides F_30 G__law_take G__law_some G__law_bounds, PySem.W.mg_of X G a_30, k_30, b_30⟩
  have G__law_silent_rows : Fd l.prog w K mg base 5 "_law_silent_rows" m__law_silent_rows := ⟨f_31, _, _, ok__law_silent_rows F_31 G__law_take G__law_some G__law_mixed G__law_bounds G__law_own_sides z_list z_range z_tuple, PySem.W.mg_of X G a_31, k_31, b_31⟩
  have G__law_silent_table : Fd l.prog w K mg base 6 "_law_silent_table" m__law_silent_table := ⟨f_32, _, _, ok__law_silent_table F_32 G__law_silent_rows, PySem.W.mg_of X G a_32, k_32, b_32⟩
  have G__law_telling : Fd l.prog w K mg base 5 "_law_telling" m__law_telling := ⟨f_33, _, _, ok__law_telling F_33 G__law_number G__law_within z_tuple, PySem.W.mg_of X G a_33, k_33, b_33⟩
  have G__law_pairings : Fd l.prog w K mg base 1 "_law_pairings" m__law_pairings := ⟨f_34, _, _, ok__law_pairings F_34 z_len z_range, PySem.W.mg_of X G a_34, k_34, b_34⟩
  have G__law_matrix : Fd l.prog w K mg base 5 "_law_matrix" m__law_matrix := ⟨f_35, _, _, ok__law_matrix F_35 G__law_total z_range z_zip, PySem.W.mg_of X G a_35, k_35, b_35⟩
  have G__law_square : Fd l.prog w K mg base 7 "_law_square" m__law_square := ⟨f_36, _, _, ok__law_square F_36 G__law_take G__law_some G__law_any_row G__law_any_table G__law_silent_table z_list z_range z_tuple, PySem.W.mg_of X G a_36, k_36, b_36⟩
  have G__law_at_number : Fd l.prog w K mg base 3 "_law_at_number" m__law_at_number := ⟨f_37, _, _, ok__law_at_number F_37 G__law_some G__law_fraction, PySem.W.mg_of X G a_37, k_37, b_37⟩
  have G__law_poly : Fd l.prog w K mg base 6 "_law_poly" m__law_poly := ⟨f_38, _, _, ok__law_poly F_38 G__law_total G__law_times G__law_minus G__law_pairings G__law_matrix z_enumerate z_range z_zip, PySem.W.mg_of X G a_38, k_38, b_38⟩
  have G__law_roots_above : Fd l.prog w K mg base 1 "_law_roots_above" m__law_roots_above := ⟨f_39, _, _, ok__law_roots_above F_39 z_enumerate z_min, PySem.W.mg_of X G a_39, k_39, b_39⟩
  exact ok_law F_40 G_polynomial_of G_roots_above G__law_bag G__law_take G__law_some G__law_alike G__law_number G__law_telling G__law_square G__law_at_number G__law_poly G__law_roots_above z_range z_repr
end PD.G
set_option Elab.async false
set_option linter.all false
set_option maxRecDepth 100000
set_option maxHeartbeats 4000000
set_option exponentiation.threshold 5000
namespace PD
open PySem L2 PD.G
theorem log2_lt {n k : Nat} (h : n < 2 ^ k) (hk : 0 < k) : n.log2 < k := by
  by_cases h0 : n = 0
  · subst h0; simpa using hk
  · exact (Nat.log2_lt h0).mpr h
theorem okMul_small {i j : Int} (hi : i.natAbs < 2 ^ 1000) (hj : j.natAbs < 2 ^ 1000) : okMul i j = true := by
  have a := log2_lt hi (by decide)
  have b := log2_lt hj (by decide)
  unfold okMul
  exact decide_eq_true (by omega)
theorem okDiv_small {i j : Int} (h0 : 0 < j) (hj : j.natAbs < 2 ^ 2000) : okDiv i j = true := by
  have b := log2_lt hj (by decide)
  unfold okDiv
  exact decide_eq_true ⟨h0, by omega⟩
theorem lowest_run {n d : Int} (hd : 0 < d) (hb : d.natAbs < 2 ^ 2000) : m_lowest [.fz (.int n), .fz (.int d)] = some (.fz (encR (mkRat n d.toNat)), [.fz (.int n), .fz (.int d)]) := by
  have hg : 0 < n.natAbs.gcd d.natAbs := Nat.gcd_pos_of_pos_right _ (by omega)
  have hgl : n.natAbs.gcd d.natAbs ≤ d.natAbs := Nat.gcd_le_right _ (by omega)
  have k1 : ∀ i, okDiv i ((n.natAbs.gcd d.natAbs : Nat) : Int) = true := fun i => okDiv_small (by omega) (by show (n.natAbs.gcd d.natAbs) < _; omega)
  have e : encR (mkRat n d.toNat) = .tuple [.int (n / ((n.natAbs.gcd d.natAbs : Nat) : Int)), .int (d / ((n.natAbs.gcd d.natAbs : Nat) : Int))] := by
    have hn : d.toNat = d.natAbs := by omega
    unfold encR
    rw [Rat.num_mkRat, Rat.den_mkRat, if_neg (by omega), if_neg (by omega), hn, Nat.gcd_comm d.natAbs n.natAbs]
    have : ((d.natAbs / n.natAbs.gcd d.natAbs : Nat) : Int) = d / ((n.natAbs.gcd d.natAbs : Nat) : Int) := by
      rw [Int.natCast_ediv, Int.natAbs_of_nonneg (by omega)]
    rw [this]
  rw [e]
  simp [m_lowest, mb_lowest, gGcd, gDiv, gI, gTup', k1, x_size]
def encD (acc : Tms) : OV := .ok (acc.map fun t => Sum.inl t.1) (acc.map fun t => .fz (encR t.2))
theorem dg_acc (k : Int) (acc : Tms) : dgO (encD acc) (.int k) = some ((getA k acc).map fun q => .fz (encR q)) := by
  unfold dgO encD
  simp only [keyOf, dictK, Option.map_some, look_acc]
theorem nodup_inl {acc : Tms} (h : (acc.map (·.1)).Nodup) : (acc.map fun t => (Sum.inl t.1 : Key)).Nodup := by
  have : (acc.map fun t => (Sum.inl t.1 : Key)) = (acc.map (·.1)).map Sum.inl := by rw [List.map_map]; rfl
  rw [this]
  exact List.Pairwise.map _ (fun a b hab z => hab (Sum.inl.inj z)) h
theorem putD_acc {k : Int} {q : Rat} {acc : Tms} (h : (acc.map (·.1)).Nodup) (hl : acc.length < sizeLine) : putD (encD acc) (.int k) (.fz (encR q)) = some (encD (putA k q acc)) := by
  unfold putD encD
  simp only [keyOf, List.length_map]
  rw [if_pos ⟨nodup_inl h, hl⟩, put_acc]
/-! ### gathered -/
/-- the numbers that are let -/
structure Lm (D M : Nat) (L : Nat) : Prop where
  d0 : 0 < D
  d1 : D < 2 ^ 400
  m1 : M < 2 ^ 400
  l1 : L ≤ sizeLine
theorem getD_num {D M : Nat} {R : Int} {acc : Tms} (h : Bd D M R acc) (hD : 0 < D) (k : Int) : ((getA k acc).getD 0).num.natAbs ≤ M ∧ ((getA k acc).getD 0).den ≤ D := by
  cases e : getA k acc with
  | none => simp; omega
  | some q => exact h.one (getA_mem e) hD
theorem add_lowest (q r : Rat) : mkRat (q.num * r.den + r.num * q.den) (q.den * r.den) = q + r := by
  have hq := Rat.mkRat_self q
  have hr := Rat.mkRat_self r
  have := Rat.mkRat_add_mkRat q.num r.num (d₁ := q.den) (d₂ := r.den) q.den_nz r.den_nz
  rw [hq, hr] at this
  rw [this]
theorem mul_lowest (q r : Rat) : mkRat (q.num * r.num) (q.den * r.den) = q * r := by
  have := Rat.mkRat_mul_mkRat q.num r.num q.den r.den
  rw [Rat.mkRat_self, Rat.mkRat_self] at this
  exact this.symm
/-- what gathering leaves -/
structure Gd (D M : Nat) (R : Int) (L : Nat) (done rest acc : Tms) : Prop where
  nd : (acc.map (·.1)).Nodup
  vl : ∀ k, val acc k = val done k
  bd : Bd D M R acc
theorem gath_step {D M1 M2 : Nat} {R : Int} {L : Nat} (lm : Lm D (M1 + M2) L) {acc : Tms} {t : Int × Rat} (h : Bd D M1 R acc) (h' : Bd D M2 R [t]) :
    m_lowest [.fz (.int (((getA t.1 acc).getD 0).num * t.2.den + t.2.num * ((getA t.1 acc).getD 0).den)), .fz (.int (((getA t.1 acc).getD 0).den * t.2.den))] =
      some (.fz (encR ((getA t.1 acc).getD 0 + t.2)), [.fz (.int (((getA t.1 acc).getD 0).num * t.2.den + t.2.num * ((getA t.1 acc).getD 0).den)), .fz (.int (((getA t.1 acc).getD 0).den * t.2.den))]) := by
  obtain ⟨a1, a2⟩ := getD_num h lm.d0 t.1
  obtain ⟨b1, b2⟩ := h'.one (t := t) (by simp) lm.d0
  have hd := lm.d1
  have p1 : 0 < ((getA t.1 acc).getD 0).den := Rat.den_pos _
  have p2 : 0 < t.2.den := Rat.den_pos _
  have hpos : 0 < ((getA t.1 acc).getD 0).den * t.2.den := Nat.mul_pos p1 p2
  have hle : ((getA t.1 acc).getD 0).den * t.2.den ≤ D * D := Nat.mul_le_mul a2 b2
  have hD2 : D * D < 2 ^ 400 * 2 ^ 400 := Nat.mul_lt_mul'' hd hd
  have := lowest_run (n := ((getA t.1 acc).getD 0).num * t.2.den + t.2.num * ((getA t.1 acc).getD 0).den) (d := ((getA t.1 acc).getD 0).den * t.2.den) (by exact_mod_cast hpos) (by
    have e : ((((getA t.1 acc).getD 0).den * t.2.den : Int)).natAbs = ((getA t.1 acc).getD 0).den * t.2.den := by
      rw [← Int.natCast_mul, Int.natAbs_natCast]
    rw [e]
    refine Nat.lt_of_le_of_lt hle (Nat.lt_trans hD2 ?_)
    rw [← Nat.pow_add]
    exact Nat.pow_lt_pow_right (by decide) (by decide))
  rw [this]
  have e2 : (((getA t.1 acc).getD 0).den * t.2.den : Int).toNat = ((getA t.1 acc).getD 0).den * t.2.den := by
    rw [← Int.natCast_mul, Int.toNat_natCast]
  rw [e2, add_lowest]
theorem lt1000 {n : Nat} (h : n < 2 ^ 400) : n < 2 ^ 1000 := Nat.lt_trans h (Nat.pow_lt_pow_right (by decide) (by decide))
theorem putA_length (k : Int) (q : Rat) : ∀ acc : Tms, (putA k q acc).length ≤ acc.length + 1
  | [] => by simp [putA]
  | t :: acc => by
    have := putA_length k q acc
    unfold putA
    split <;> simp <;> omega
theorem encR_zero : encR 0 = .tuple [.int 0, .int 1] := rfl
theorem dget2_acc {fa fb fc : EV} {S : SS} {acc : Tms} {k : Int} (h1 : fa S = some (encD acc, S)) (h2 : fb S = some (.fz (.int k), S)) (h3 : fc S = some (.fz (.tuple [.int 0, .int 1]), S)) :
    eDGet2 true true fa fb fc S = some (.fz (encR ((getA k acc).getD 0)), S) := by
  unfold eDGet2
  rw [h1]
  simp only [Bool.and_true, Bool.true_or, if_true, h2, h3, dg_acc]
  cases getA k acc with
  | none => rfl
  | some q => rfl
theorem encD_io {acc : Tms} : (encD acc).isFz = false := rfl
theorem gath_loop {D M R L} (lm : Lm D M L) {d0 : OV} : ∀ (rest acc : Tms) (M1 M2 : Nat) (z : SV), (∀ u, z ≠ .io u) → (acc.map (·.1)).Nodup → Bd D M1 R acc → Bd D M2 R rest → M1 + M2 ≤ M → acc.length + rest.length ≤ L →
    ∃ acc' z', forL [3, 4, 5, 6] fg_gathered_1 fb_gathered_1 (rest.map encT) [.v d0, .v (encD acc), z, .un, .un, .un, .un] = some (.nx, [.v d0, .v (encD acc'), z', .un, .un, .un, .un]) ∧ (∀ u, z' ≠ .io u) ∧
      (acc'.map (·.1)).Nodup ∧ Bd D M R acc' ∧ (∀ k, val acc' k = val acc k + val rest k) ∧ acc'.length ≤ acc.length + rest.length
  | [], acc, M1, M2, z, hz, hn, h1, h2, hM, hL => ⟨acc, z, rfl, hz, hn, h1.mono (by omega) (Int.le_refl _), fun k => by simp; grind, Nat.le_refl _⟩
  | t :: rest, acc, M1, M2, z, hz, hn, h1, h2, hM, hL => by
    have hb : Bd D (nz D t.2).natAbs R [t] := ⟨fun u hu => h2.dv u (by simp at hu; simp [hu]), by simp [l1], fun u hu => h2.rg u (by simp at hu; simp [hu])⟩
    have h2' : Bd D (l1 D rest) R rest := ⟨fun u hu => h2.dv u (List.mem_cons_of_mem _ hu), Nat.le_refl _, fun u hu => h2.rg u (List.mem_cons_of_mem _ hu)⟩
    have hs := h2.le
    rw [l1_cons] at hs
    have hlen : (addA t acc).length ≤ acc.length + 1 := putA_length _ _ _
    simp only [List.length_cons] at hL
    have hlow := gath_step (L := L) (lm := ⟨lm.d0, lm.d1, Nat.lt_of_le_of_lt (by omega) lm.m1, lm.l1⟩) h1 hb
    obtain ⟨acc', z', e, hz', g1, g2, g3, g4⟩ := gath_loop (d0 := d0) lm rest (addA t acc) (M1 + (nz D t.2).natAbs) (l1 D rest) (.v (.fz (.int t.1))) (fun u => by simp) (addA_nodup hn) (h1.addA lm.d0 hb) h2' (by omega) (by omega)
    refine ⟨acc', z', ?_, hz', g1, g2, fun k => by rw [g3, val_addA hn, val_cons]; grind, by simp only [List.length_cons]; omega⟩
    rw [List.map_cons]
    obtain ⟨a1, a2⟩ := getD_num h1 lm.d0 t.1
    obtain ⟨b1, b2⟩ := hb.one (t := t) (by simp) lm.d0
    have hd := lm.d1
    have hm := lm.m1
    have k1 : okMul ((getA t.1 acc).getD 0).num t.2.den = true := okMul_small (lt1000 (by omega)) (lt1000 (by simp; omega))
    have k2 : okMul t.2.num ((getA t.1 acc).getD 0).den = true := okMul_small (lt1000 (by omega)) (lt1000 (by simp; omega))
    have k3 : okMul ((getA t.1 acc).getD 0).den t.2.den = true := okMul_small (lt1000 (by simp; omega)) (lt1000 (by simp; omega))
    have hacc : acc.length < sizeLine := by
      have := lm.l1
      omega
    have hput := putD_acc (k := t.1) (q := (getA t.1 acc).getD 0 + t.2) hn hacc
    have hdc : ∀ S : SS, isDc 1 (.v d0 :: .v (encD acc) :: S) = true := fun S => rfl
    rw [show addA t acc = putA t.1 ((getA t.1 acc).getD 0 + t.2) acc from rfl] at e
    have hg := dget2_acc (fa := eVar 1) (fb := eVar 2) (fc := eCall gTup' (aCons true (eC (.int 0)) (aCons true (eC (.int 1)) aNil))) (S := [.v d0, .v (encD acc), .v (.fz (.int t.1)), .v (.fz (.int t.2.num)), .v (.fz (.int t.2.den)), .un, .un]) (acc := acc) (k := t.1) rfl rfl (by simp [gTup', x_size])
    generalize (getA t.1 acc).getD 0 = q at *
    have hb1 : fg_gathered_1 (encT t) [.v d0, .v (encD acc), z, .un, .un, .un, .un] = some [.v d0, .v (encD acc), .v (.fz (.int t.1)), .v (.fz (.int t.2.num)), .v (.fz (.int t.2.den)), .un, .un] := by
      cases z with
      | io u => exact absurd rfl (hz u)
      | _ => simp [fg_gathered_1, encT, encR]
    have hb2 : fb_gathered_1 [.v d0, .v (encD acc), .v (.fz (.int t.1)), .v (.fz (.int t.2.num)), .v (.fz (.int t.2.den)), .un, .un] =
        some (.nx, [.v d0, .v (encD (putA t.1 (q + t.2) acc)), .v (.fz (.int t.1)), .v (.fz (.int t.2.num)), .v (.fz (.int t.2.den)), .v (.fz (.int q.num)), .v (.fz (.int q.den))]) := by
      unfold fb_gathered_1
      simp only [encR] at hg
      simp [-x_eDGet2, hg, gMulX, gAddX, k1, k2, k3, hdc, gCallF, hlow, getS, SV.ov, hput, modS, SV.put]
    unfold forL
    simp only [hb1, hb2]
    exact e
theorem getA_some {k : Int} : ∀ {acc : Tms}, k ∈ acc.map (·.1) → ∃ q, getA k acc = some q
  | t :: acc, h => by
    unfold getA
    by_cases e : t.1 = k
    · rw [if_pos e]; exact ⟨_, rfl⟩
    · rw [if_neg e]
      rw [List.map_cons] at h
      rcases List.mem_cons.mp h with h | h
      · exact absurd h.symm e
      · exact getA_some h
def ksort (acc : Tms) : List Int := (acc.map (·.1)).mergeSort fun a b => decide (a ≤ b)
def canon (acc : Tms) : Tms := ((ksort acc).filter fun k => decide (val acc k ≠ 0)).map fun k => (k, val acc k)
theorem ksort_perm (acc : Tms) : (ksort acc).Perm (acc.map (·.1)) := List.mergeSort_perm _ _
theorem ksort_sorted {acc : Tms} (h : (acc.map (·.1)).Nodup) : (ksort acc).Pairwise (· < ·) := by
  have h1 : (ksort acc).Pairwise (fun a b => decide (a ≤ b) = true) := List.pairwise_mergeSort (fun a b c => by simp; omega) (fun a b => by simp; omega) _
  have h2 : (ksort acc).Nodup := (ksort_perm acc).nodup_iff.mpr h
  refine (h1.and h2).imp fun {a b} ⟨x, y⟩ => ?_
  have : a ≤ b := of_decide_eq_true x
  omega
theorem map_val : ∀ {acc : Tms}, (acc.map (·.1)).Nodup → (acc.map (·.1)).map (fun k => (k, val acc k)) = acc
  | [], _ => rfl
  | t :: acc, h => by
    have hh := h
    simp only [List.map_cons, List.nodup_cons] at hh
    simp only [List.map_cons]
    congr 1
    · rw [← getA_val h]
      simp [getA]
    · have ih := map_val hh.2
      conv => rhs; rw [← ih]
      apply List.map_congr_left
      intro k hk
      have : t.1 ≠ k := fun z => hh.1 (z ▸ hk)
      simp only [val, if_neg this]
      congr 1
      grind
theorem canon_sub {acc : Tms} (h : (acc.map (·.1)).Nodup) : ∃ b, b.Perm acc ∧ (canon acc).Sublist b := by
  refine ⟨(ksort acc).map fun k => (k, val acc k), ?_, (List.filter_sublist (l := ksort acc)).map _⟩
  have := (ksort_perm acc).map fun k => (k, val acc k)
  rwa [map_val h] at this
theorem canon_cn {acc : Tms} (h : (acc.map (·.1)).Nodup) : Cn (canon acc) := by
  refine ⟨?_, fun t ht => ?_⟩
  · unfold canon
    rw [List.map_map]
    have : ((fun t : Int × Rat => t.1) ∘ fun k => (k, val acc k)) = id := rfl
    rw [this, List.map_id]
    exact (ksort_sorted h).sublist List.filter_sublist
  · unfold canon at ht
    obtain ⟨k, hk, rfl⟩ := List.mem_map.mp ht
    exact of_decide_eq_true (List.mem_filter.mp hk).2
theorem canon_val {acc : Tms} (h : (acc.map (·.1)).Nodup) (k : Int) : val (canon acc) k = val acc k := by
  have hp := (ksort_perm acc).map fun k => (k, val acc k)
  rw [map_val h] at hp
  rw [← val_perm hp k]
  unfold canon
  generalize ksort acc = ks
  induction ks with
  | nil => rfl
  | cons j ks ih =>
    rw [List.filter_cons]
    by_cases e : val acc j = 0
    · rw [if_neg (by simp [e]), ih]
      simp only [List.map_cons, val, e]
      grind
    · rw [if_pos (by simp [e])]
      simp only [List.map_cons, val, ih]
theorem l1_perm {D : Nat} {a b : Tms} (h : a.Perm b) : l1 D a = l1 D b := (h.map _).sum_nat
theorem l1_sub {D : Nat} {a b : Tms} (h : a.Sublist b) : l1 D a ≤ l1 D b := by
  induction h with
  | slnil => exact Nat.le_refl _
  | cons x _ ih => rw [l1_cons]; omega
  | cons_cons x _ ih => rw [l1_cons, l1_cons]; omega
theorem canon_bd {D M : Nat} {R : Int} {acc : Tms} (hn : (acc.map (·.1)).Nodup) (h : Bd D M R acc) : Bd D M R (canon acc) := by
  obtain ⟨b, hb, hs⟩ := canon_sub hn
  refine ⟨fun t ht => h.dv t (hb.mem_iff.mp (hs.subset ht)), ?_, fun t ht => h.rg t (hb.mem_iff.mp (hs.subset ht))⟩
  exact Nat.le_trans (l1_sub hs) (by rw [l1_perm hb]; exact h.le)
theorem canon_len {acc : Tms} (hn : (acc.map (·.1)).Nodup) : (canon acc).length ≤ acc.length := by
  obtain ⟨b, hb, hs⟩ := canon_sub hn
  rw [← hb.length_eq]
  exact hs.length_le
/-- gathered, plain -/
def accOf : Tms → Tms → Tms
  | [], acc => acc
  | t :: ts, acc => accOf ts (addA t acc)
theorem accOf_ok : ∀ (ts acc : Tms), (acc.map (·.1)).Nodup → ((accOf ts acc).map (·.1)).Nodup ∧ ∀ k, val (accOf ts acc) k = val acc k + val ts k
  | [], acc, h => ⟨h, fun k => by simp [accOf]; grind⟩
  | t :: ts, acc, h => by
    obtain ⟨h1, h2⟩ := accOf_ok ts _ (addA_nodup (t := t) h)
    refine ⟨h1, fun k => ?_⟩
    show val (accOf ts (addA t acc)) k = _
    rw [h2, val_addA h, val_cons]
    grind
def cano (ts : Tms) : Tms := canon (accOf ts [])
theorem cano_cn (ts : Tms) : Cn (cano ts) := canon_cn (accOf_ok ts [] (by simp)).1
theorem cano_val (ts : Tms) (k : Int) : val (cano ts) k = val ts k := by
  obtain ⟨h1, h2⟩ := accOf_ok ts [] (by simp)
  unfold cano
  rw [canon_val h1, h2]
  simp
  grind
theorem cano_eq {a b : Tms} (h : ∀ k, val a k = val b k) : cano a = cano b := Cn.ext (cano_cn a) (cano_cn b) fun k => by rw [cano_val, cano_val, h]
theorem cano_self {a : Tms} (h : Cn a) : cano a = a := Cn.ext (cano_cn a) h fun k => cano_val a k
/-- what gathered gives -/
structure Gath (D M : Nat) (R : Int) (L : Nat) (ts l : Tms) : Prop where
  cn : Cn l
  vl : ∀ k, val l k = val ts k
  bd : Bd D M R l
  ln : l.length ≤ L
theorem gathered_run {D M R L} (lm : Lm D M L) {ts : Tms} {o : PyData} (ho : seqD (.fz o) = some (ts.map encT)) (h : Bd D M R ts) (hL : ts.length ≤ L) :
    m_gathered [.fz o] = some (.fz (encN (cano ts)), [.fz o]) ∧ Gath D M R ts.length ts (cano ts) := by
  obtain ⟨acc, z, e, hz, g1, g2, g3, g4⟩ := gath_loop (d0 := .fz o) lm ts [] 0 M .un (fun u => by simp) (by simp) Bd.nil h (by omega) (by simpa using hL)
  have hvl : ∀ k, val (canon acc) k = val ts k := fun k => by rw [canon_val g1, g3]; simp; grind
  have hcano : cano ts = canon acc := Cn.ext (cano_cn ts) (canon_cn g1) fun k => by rw [cano_val, hvl]
  rw [hcano]
  refine ⟨?_, canon_cn g1, hvl, canon_bd g1 g2, Nat.le_trans (canon_len g1) (by simpa using g4)⟩
  have hlen : (ksort acc).length ≤ sizeLine := by
    rw [(ksort_perm acc).length_eq, List.length_map]
    have := lm.l1
    simp at g4
    omega
  have hsort : gSortK (encD acc) = some (.ol (((ksort acc).map PyData.int).map OV.fz)) := by
    unfold gSortK encD ksort
    have : (acc.map fun t => (Sum.inl t.1 : Key)) = (acc.map (·.1)).map Sum.inl := by rw [List.map_map]; rfl
    simp only [this, keysI_map, Option.map_some]
  have hi : iSeq (oFr (eCall (PD.g1 gSortK) (aCons true (eVar 1) aNil))) [.v (.fz o), .v (encD acc), z, .un, .un, .un, .un] = some ((ksort acc).map PyData.int, [.v (.fz o), .v (encD acc), z, .un, .un, .un, .un]) := by
    simp [PD.g1, hsort, seqD, Function.comp_def]
  have hlc := eLc_map (vs := [2]) (gv := tgN 2) (ft := bOf (eBin gNe true (eBin gIx true (eBin gDGet true (eVar 1) (eVar 2)) (eC (.int 0))) (eC (.int 0)))) (f := ce_gathered_1) (A := Int) PyData.int (fun k => decide (val acc k ≠ 0)) (fun k => .fz (encT (k, val acc k))) hi hlen (fun k hk => by
    have hk' : k ∈ acc.map (·.1) := (ksort_perm acc).mem_iff.mp hk
    obtain ⟨q, hq⟩ := getA_some hk'
    have hv : val acc k = q := by rw [← getA_val g1, hq]; rfl
    have hdg : gDGet (encD acc) (.fz (.int k)) = some (.fz (encR q)) := by
      simp only [gDGet, dg_acc, hq, Option.map_some]
    rw [hv]
    refine ⟨[.v (.fz o), .v (encD acc), .v (.fz (.int k)), .un, .un, .un, .un], [.v (.fz o), .v (encD acc), .v (.fz (.int k)), .un, .un, .un, .un], by simp, ?_, fun _ => ⟨[.v (.fz o), .v (encD acc), .v (.fz (.int k)), .un, .un, .un, .un], ?_, rfl⟩, fun _ => rfl⟩
    · simp [hdg, gIx, encR, gNe, atI, ixN]
      rw [Bool.eq_iff_iff]
      simp [Rat.num_eq_zero]
    · simp [ce_gathered_1, hdg, gTup', x_size, encT])
  have hfor : gFor [3, 4, 5, 6] (iSeq (eVar 0)) fg_gathered_1 fb_gathered_1 [.v (.fz o), .v (.ok [] []), .un, .un, .un, .un, .un] = some (.nx, [.v (.fz o), .v (encD acc), z, .un, .un, .un, .un]) := by
    unfold gFor
    simp [ho]
    exact e
  have hseq : ∀ xs : List (Int × Rat), seqX (.ol (xs.map fun t => OV.fz (encT t))) = some (xs.map encT) := fun xs => by
    have : (xs.map fun t => OV.fz (encT t)) = (xs.map encT).map OV.fz := by rw [List.map_map]; rfl
    unfold seqX
    rw [this]
    exact allFz_fz _
  simp only [m_gathered, mb_gathered, x_fnM, x_gSeq, x_gSet, x_gRet, x_eCall, x_aCons, x_aNil]
  have hseq' : seqX (.ol (((ksort acc).filter fun k => !decide (val acc k = 0)).map fun k => OV.fz (encT (k, val acc k)))) = some ((canon acc).map encT) := by
    have := hseq (canon acc)
    unfold canon at this ⊢
    simpa [List.map_map, Function.comp_def] using this
  simp [-x_gFor, -x_eLc, hfor, hlc, PD.g1, gTuple, hseq', encN]
end PD
set_option Elab.async false
set_option linter.all false
set_option maxRecDepth 100000
set_option maxHeartbeats 4000000
set_option exponentiation.threshold 5000
namespace PD
open PySem L2 PD.G
theorem map_fz (xs : List PyData) {A : Type} (g : A → PyData) (as : List A) : (as.map fun a => OV.fz (g a)) = (as.map g).map OV.fz := by rw [List.map_map]; rfl
theorem erase_fzs (xs : List PyData) : (OV.ol (xs.map OV.fz)).erase = .list xs := by rw [x_erase_ol, List.map_map]; simp [Function.comp_def]
theorem total_run {D M R L} (lm : Lm D M L) {ns : List Tms} {o : PyData} (ho : seqD (.fz o) = some (ns.map encN)) (h : Bd D M R ns.flatten) (hL : ns.flatten.length ≤ L) :
    m_total [.fz o] = some (.fz (encN (cano ns.flatten)), [.fz o]) ∧ Gath D M R ns.flatten.length ns.flatten (cano ns.flatten) := by
  obtain ⟨e1, e2⟩ := gathered_run lm (ts := ns.flatten) (o := .list (ns.flatten.map encT)) rfl h hL
  refine ⟨?_, e2⟩
  have hlc := eLc2_map (vs := [1, 2]) (vs1 := [2]) (fi := iSeq (eVar 0)) (gv := tgN 1) (gv2 := tgN 2) (fj := iSeq (eVar 1)) (f := oFz (eVar 2)) encN encT (fun n => n) (fun _ t => OV.fz (encT t)) (by decide) (as := ns) (S0 := [.v (.fz o), .un, .un]) (S := [.v (.fz o), .un, .un]) (by simp [ho]) (fun a ha => by
    refine ⟨[.v (.fz o), .v (.fz (encN a)), .un], [.v (.fz o), .v (.fz (encN a)), .un], by simp, by simp [encN, seqD], rfl, fun b hb => ⟨[.v (.fz o), .v (.fz (encN a)), .v (.fz (encT b))], [.v (.fz o), .v (.fz (encN a)), .v (.fz (encT b))], by simp, by simp, rfl⟩⟩) (by
      have := lm.l1
      rw [List.flatMap_id']
      omega)
  have hfl : ns.flatMap (fun a => a.map fun t => OV.fz (encT t)) = (ns.flatten.map encT).map OV.fz := by
    rw [List.map_flatten, List.map_flatten, List.flatMap_def, List.map_map]
    congr 1
    apply List.map_congr_left
    intro a _
    simp
  rw [hfl] at hlc
  have her : (OV.ol ((ns.flatten.map encT).map OV.fz)).erase = .list (ns.flatten.map encT) := erase_fzs _
  simp only [m_total, mb_total, x_fnM, x_gRet, x_eCall, x_aCons, x_aNil, x_oFr]
  simp [-x_eLc2, hlc, gCallF, -x_erase_ol, her, -List.map_map, -List.map_flatten, e1]
/-! ### times -/
def prodT (a b : Tms) : Tms := a.flatMap fun t => b.map fun u => (t.1 + u.1, t.2 * u.2)
theorem prodT_bd {D E N : Nat} {R T : Int} (hD : 0 < D) (hE : 0 < E) {b : Tms} (hb : Bd E N T b) : ∀ {a : Tms} {M : Nat}, Bd D M R a → Bd (D * E) (M * N) (R + T) (prodT a b)
  | [], M, h => Bd.nil
  | t :: a, M, h => by
    have ht := h.dv t List.mem_cons_self
    have hr := h.rg t List.mem_cons_self
    have hle := h.le
    rw [l1_cons] at hle
    have one : Bd (D * E) ((nz D t.2).natAbs * N) (R + T) (b.map fun u => (t.1 + u.1, t.2 * u.2)) := by
      refine ⟨fun x hx => ?_, ?_, fun x hx => ?_⟩
      · obtain ⟨u, hu, rfl⟩ := List.mem_map.mp hx
        exact (nz_mul hD hE ht (hb.dv u hu)).2
      · refine Nat.le_trans ?_ (Nat.mul_le_mul_left _ hb.le)
        clear hle hr
        have hdv := hb.dv
        clear hb
        induction b with
        | nil => simp [l1]
        | cons u b ih =>
          rw [List.map_cons, l1_cons, l1_cons, Nat.mul_add]
          have := ih fun x hx => hdv x (List.mem_cons_of_mem _ hx)
          rw [(nz_mul hD hE ht (hdv u List.mem_cons_self)).1, Int.natAbs_mul]
          omega
      · obtain ⟨u, hu, rfl⟩ := List.mem_map.mp hx
        have := hb.rg u hu
        dsimp only
        omega
    have rest := prodT_bd hD hE hb (a := a) (M := l1 D a) (R := R) ⟨fun x hx => h.dv x (List.mem_cons_of_mem _ hx), Nat.le_refl _, fun x hx => h.rg x (List.mem_cons_of_mem _ hx)⟩
    have := one.append rest
    rw [← Nat.add_mul] at this
    exact this.mono (Nat.mul_le_mul_right _ hle) (Int.le_refl _)
theorem prodT_len (a b : Tms) : (prodT a b).length = a.length * b.length := by
  unfold prodT
  induction a with
  | nil => simp
  | cons t a ih => rw [List.flatMap_cons, List.length_append, ih, List.length_map, List.length_cons, Nat.succ_mul]; omega
theorem mul_low {q r : Rat} {D E M N : Nat} (hq : q.num.natAbs ≤ M ∧ q.den ≤ D) (hr : r.num.natAbs ≤ N ∧ r.den ≤ E) (hD : D < 2 ^ 400) (hE : E < 2 ^ 400) (hM : M < 2 ^ 400) (hN : N < 2 ^ 400) :
    okMul q.num r.num = true ∧ okMul q.den r.den = true ∧ m_lowest [.fz (.int (q.num * r.num)), .fz (.int (q.den * r.den))] = some (.fz (encR (q * r)), [.fz (.int (q.num * r.num)), .fz (.int (q.den * r.den))]) := by
  have p1 := q.den_pos
  have p2 := r.den_pos
  refine ⟨okMul_small (lt1000 (by omega)) (lt1000 (by omega)), okMul_small (lt1000 (by simp; omega)) (lt1000 (by simp; omega)), ?_⟩
  have hpos : 0 < q.den * r.den := Nat.mul_pos p1 p2
  have hle : q.den * r.den ≤ D * E := Nat.mul_le_mul hq.2 hr.2
  have hD2 : D * E < 2 ^ 400 * 2 ^ 400 := Nat.mul_lt_mul'' hD hE
  have e : ((q.den * r.den : Int)).natAbs = q.den * r.den := by rw [← Int.natCast_mul, Int.natAbs_natCast]
  have e2 : (q.den * r.den : Int).toNat = q.den * r.den := by rw [← Int.natCast_mul, Int.toNat_natCast]
  have := lowest_run (n := q.num * r.num) (d := q.den * r.den) (by exact_mod_cast hpos) (by
    rw [e]
    refine Nat.lt_of_le_of_lt hle (Nat.lt_trans hD2 ?_)
    rw [← Nat.pow_add]
    exact Nat.pow_lt_pow_right (by decide) (by decide))
  rw [this, e2, mul_lowest]
theorem times_loop {D E M N : Nat} {R T : Int} (hD : 0 < D) (hE : 0 < E) (hD4 : D < 2 ^ 400) (hE4 : E < 2 ^ 400) (hM4 : M < 2 ^ 400) (hN4 : N < 2 ^ 400) {b : Tms} (hb : Bd E N T b) {o1 : OV} {o2 : PyData} (ho2 : seqD (.fz o2) = some (b.map encT)) : ∀ (a acc : Tms), Bd D M R a → acc.length + a.length * b.length ≤ sizeLine →
    forL [3, 4, 5] fg_times_1 fb_times_1 (a.map encT) [.v o1, .v (.fz o2), .v (.ol ((acc.map encT).map OV.fz)), .un, .un, .un, .un, .un, .un] =
      some (.nx, [.v o1, .v (.fz o2), .v (.ol (((acc ++ prodT a b).map encT).map OV.fz)), .un, .un, .un, .un, .un, .un])
  | [], acc, h, hz => by simp [forL, prodT]
  | t :: a, acc, h, hz => by
    have hz' : acc.length + (a.length * b.length + b.length) ≤ sizeLine := by
      rw [List.length_cons, Nat.succ_mul] at hz
      exact hz
    have ht := h.one (t := t) List.mem_cons_self hD
    have h' : Bd D M R a := ⟨fun x hx => h.dv x (List.mem_cons_of_mem _ hx), by have := h.le; rw [l1_cons] at this; omega, fun x hx => h.rg x (List.mem_cons_of_mem _ hx)⟩
    have ih := times_loop (o1 := o1) hD hE hD4 hE4 hM4 hN4 hb ho2 a (acc ++ b.map fun u => (t.1 + u.1, t.2 * u.2)) h' (by rw [List.length_append, List.length_map]; omega)
    have hlc := eLc_map (vs := [6, 7, 8]) (fi := iSeq (eVar 1)) (gv := tgT 2 (tgCons (tgN 6) (tgCons (tgT 2 (tgCons (tgN 7) (tgCons (tgN 8) tgNil))) tgNil))) (ft := bYes) (f := ce_times_1) encT (fun _ => true) (fun u => OV.fz (encT (t.1 + u.1, t.2 * u.2))) (as := b)
      (S0 := [.v o1, .v (.fz o2), .v (.ol ((acc.map encT).map OV.fz)), .v (.fz (.int t.1)), .v (.fz (.int t.2.num)), .v (.fz (.int t.2.den)), .un, .un, .un]) (S := [.v o1, .v (.fz o2), .v (.ol ((acc.map encT).map OV.fz)), .v (.fz (.int t.1)), .v (.fz (.int t.2.num)), .v (.fz (.int t.2.den)), .un, .un, .un]) (by simp [ho2]) (by omega) (fun u hu => by
        have hu' := hb.one hu hE
        obtain ⟨k1, k2, k3⟩ := mul_low ht hu' hD4 hE4 hM4 hN4
        refine ⟨[.v o1, .v (.fz o2), .v (.ol ((acc.map encT).map OV.fz)), .v (.fz (.int t.1)), .v (.fz (.int t.2.num)), .v (.fz (.int t.2.den)), .v (.fz (.int u.1)), .v (.fz (.int u.2.num)), .v (.fz (.int u.2.den))], _, by simp [encT, encR], rfl, fun _ => ⟨[.v o1, .v (.fz o2), .v (.ol ((acc.map encT).map OV.fz)), .v (.fz (.int t.1)), .v (.fz (.int t.2.num)), .v (.fz (.int t.2.den)), .v (.fz (.int u.1)), .v (.fz (.int u.2.num)), .v (.fz (.int u.2.den))], ?_, rfl⟩, fun z => by cases z⟩
        simp [ce_times_1, gAddX, gMulX, k1, k2, gCallF, k3, gTup', x_size, encT])
    have hft : b.filter (fun _ => true) = b := by simp
    rw [hft, map_fz [] (fun u : Int × Rat => encT (t.1 + u.1, t.2 * u.2))] at hlc
    have hst : (if b.isEmpty = true then ([.v o1, .v (.fz o2), .v (.ol ((acc.map encT).map OV.fz)), .v (.fz (.int t.1)), .v (.fz (.int t.2.num)), .v (.fz (.int t.2.den)), .un, .un, .un] : SS) else wipeS [6, 7, 8] [.v o1, .v (.fz o2), .v (.ol ((acc.map encT).map OV.fz)), .v (.fz (.int t.1)), .v (.fz (.int t.2.num)), .v (.fz (.int t.2.den)), .un, .un, .un]) = [.v o1, .v (.fz o2), .v (.ol ((acc.map encT).map OV.fz)), .v (.fz (.int t.1)), .v (.fz (.int t.2.num)), .v (.fz (.int t.2.den)), .un, .un, .un] := by
      split <;> rfl
    rw [hst] at hlc
    have hb1 : fg_times_1 (encT t) [.v o1, .v (.fz o2), .v (.ol ((acc.map encT).map OV.fz)), .un, .un, .un, .un, .un, .un] = some [.v o1, .v (.fz o2), .v (.ol ((acc.map encT).map OV.fz)), .v (.fz (.int t.1)), .v (.fz (.int t.2.num)), .v (.fz (.int t.2.den)), .un, .un, .un] := by simp [fg_times_1, encT, encR]
    have hb2 : fb_times_1 [.v o1, .v (.fz o2), .v (.ol ((acc.map encT).map OV.fz)), .v (.fz (.int t.1)), .v (.fz (.int t.2.num)), .v (.fz (.int t.2.den)), .un, .un, .un] =
        some (.nx, [.v o1, .v (.fz o2), .v (.ol (((acc ++ b.map fun u => (t.1 + u.1, t.2 * u.2)).map encT).map OV.fz)), .v (.fz (.int t.1)), .v (.fz (.int t.2.num)), .v (.fz (.int t.2.den)), .un, .un, .un]) := by
      unfold fb_times_1 gExt
      have hl : isOl 2 [.v o1, .v (.fz o2), .v (.ol ((acc.map encT).map OV.fz)), .v (.fz (.int t.1)), .v (.fz (.int t.2.num)), .v (.fz (.int t.2.den)), .un, .un, .un] = true := rfl
      rw [if_pos hl, hlc]
      have hs : seqX (.ol ((b.map fun u => encT (t.1 + u.1, t.2 * u.2)).map OV.fz)) = some (b.map fun u => encT (t.1 + u.1, t.2 * u.2)) := allFz_fz _
      have hg : getS 2 [.v o1, .v (.fz o2), .v (.ol ((acc.map encT).map OV.fz)), .v (.fz (.int t.1)), .v (.fz (.int t.2.num)), .v (.fz (.int t.2.den)), .un, .un, .un] = some (.ol ((acc.map encT).map OV.fz)) := rfl
      simp only [hs, hg, List.length_map]
      rw [if_pos (by omega)]
      simp [modS, SV.put, List.map_map, Function.comp_def]
    rw [List.map_cons]
    unfold forL
    simp only [hb1, hb2]
    have hp : prodT (t :: a) b = (b.map fun u => (t.1 + u.1, t.2 * u.2)) ++ prodT a b := by simp [prodT]
    rw [hp, ← List.append_assoc]
    exact ih
theorem times_run {D E M N L : Nat} {R T : Int} (lm : Lm (D * E) (M * N) L) (hD : 0 < D) (hE : 0 < E) (hD4 : D < 2 ^ 400) (hE4 : E < 2 ^ 400) (hM4 : M < 2 ^ 400) (hN4 : N < 2 ^ 400) {a b : Tms} (ha : Bd D M R a) (hb : Bd E N T b) (hL : a.length * b.length ≤ L) :
    m_times [.fz (encN a), .fz (encN b)] = some (.fz (encN (cano (prodT a b))), [.fz (encN a), .fz (encN b)]) ∧ Gath (D * E) (M * N) (R + T) (a.length * b.length) (prodT a b) (cano (prodT a b)) := by
  have hbd := prodT_bd hD hE hb ha
  have hlen := prodT_len a b
  obtain ⟨e1, e2⟩ := gathered_run lm (ts := prodT a b) (o := .list ((prodT a b).map encT)) rfl hbd (by rw [hlen]; exact hL)
  rw [hlen] at e2
  refine ⟨?_, e2⟩
  have hloop := times_loop (R := R) (o1 := .fz (encN a)) (o2 := encN b) hD hE hD4 hE4 hM4 hN4 hb rfl a [] ha (by have := lm.l1; simp; omega)
  have hfor : gFor [3, 4, 5] (iSeq (eVar 0)) fg_times_1 fb_times_1 [.v (.fz (encN a)), .v (.fz (encN b)), .v (.ol []), .un, .un, .un, .un, .un, .un] = some (.nx, [.v (.fz (encN a)), .v (.fz (encN b)), .v (.ol (((prodT a b).map encT).map OV.fz)), .un, .un, .un, .un, .un, .un]) := by
    unfold gFor
    simp [encN, seqD]
    simpa [encN] using hloop
  have her : (OV.ol (((prodT a b).map encT).map OV.fz)).erase = .list ((prodT a b).map encT) := erase_fzs _
  simp only [m_times, mb_times, x_fnM, x_gSeq, x_gSet, x_gRet, x_eCall, x_aCons, x_aNil]
  simp [-x_gFor, hfor, gLst', x_size, -x_erase_ol, her, -List.map_map, gCallF, e1]
end PD
set_option Elab.async false
set_option linter.all false
set_option maxRecDepth 100000
set_option maxHeartbeats 4000000
set_option exponentiation.threshold 5000
namespace PD
open PySem L2 PD.G
/-- a number within bounds -/
structure NB (D M : Nat) (R : Int) (n : Tms) : Prop where
  cn : Cn n
  bd : Bd D M R n
theorem asc_len : ∀ {l : List Int} {lo hi : Int}, l.Pairwise (· < ·) → (∀ x ∈ l, lo ≤ x ∧ x ≤ hi) → (l.length : Int) ≤ max 0 (hi - lo + 1)
  | [], _, _, _, _ => by simp; omega
  | x :: l, lo, hi, h, hb => by
    rw [List.pairwise_cons] at h
    have h1 := hb x List.mem_cons_self
    have := asc_len (lo := x + 1) (hi := hi) h.2 fun y hy => ⟨h.1 y hy, (hb y (List.mem_cons_of_mem _ hy)).2⟩
    simp only [List.length_cons]
    omega
theorem NB.len {D M : Nat} {R : Int} {n : Tms} (h : NB D M R n) (hR : 0 ≤ R) : (n.length : Int) ≤ 2 * R + 1 := by
  have := asc_len (lo := -R) (hi := R) h.cn.asc fun x hx => by
    obtain ⟨t, ht, rfl⟩ := List.mem_map.mp hx
    exact h.bd.rg t ht
  rw [List.length_map] at this
  omega
theorem NB.nil {D M : Nat} {R : Int} : NB D M R [] := ⟨Cn.nil, Bd.nil⟩
theorem NB.mono {D M M' : Nat} {R R' : Int} {n : Tms} (h : NB D M R n) (hM : M ≤ M') (hR : R ≤ R') : NB D M' R' n := ⟨h.cn, h.bd.mono hM hR⟩
def mulN (a b : Tms) : Tms := cano (prodT a b)
def addN (a b : Tms) : Tms := cano (a ++ b)
theorem addN_nb {D M N : Nat} {R : Int} {a b : Tms} (lm : Lm D (M + N) sizeLine) (ha : NB D M R a) (hb : NB D N R b) (hl : a.length + b.length ≤ sizeLine) : NB D (M + N) R (addN a b) := by
  obtain ⟨_, g⟩ := gathered_run lm (ts := a ++ b) (o := .list ((a ++ b).map encT)) rfl (ha.bd.append hb.bd) (by simpa using hl)
  exact ⟨g.cn, g.bd⟩
theorem total2_run {D M N : Nat} {R : Int} {a b : Tms} (lm : Lm D (M + N) sizeLine) (ha : NB D M R a) (hb : NB D N R b) (hl : a.length + b.length ≤ sizeLine) :
    m_total [.fz (.list [encN a, encN b])] = some (.fz (encN (addN a b)), [.fz (.list [encN a, encN b])]) := by
  have := (total_run lm (ns := [a, b]) (o := .list [encN a, encN b]) rfl (by simpa using ha.bd.append hb.bd) (by simpa using hl)).1
  simpa [addN] using this
def encP (p : List Tms) : PyData := .list (p.map encN)
theorem term_run {z : Int} (hz : z ≠ 0) : m_term [.fz (.int 0), .fz (.tuple [.int z, .int 1])] = some (.fz (encN [(0, (z : Rat))]), [.fz (.int 0), .fz (.tuple [.int z, .int 1])]) := by
  have hz' : (z == 0) = false := by simpa using hz
  simp [m_term, mb_term, gIx, atI, ixN, gEq, hz', gTup', x_size, encN, encT, encR]
theorem pm1_nb {z : Int} (hz : z = 1 ∨ z = -1) {R : Int} (hR : 0 ≤ R) : NB 1 1 R [(0, (z : Rat))] := by
  refine ⟨⟨by simp, fun t ht => ?_⟩, fun t ht => ?_, ?_, fun t ht => ?_⟩
  · have : t = (0, (z : Rat)) := by simpa using ht
    subst this
    rcases hz with rfl | rfl
    · show ((1 : Int) : Rat) ≠ 0; decide
    · show ((-1 : Int) : Rat) ≠ 0; decide
  · have : t = (0, (z : Rat)) := by simpa using ht
    subst this
    simp
  · rcases hz with rfl | rfl <;> simp [l1, nz]
  · have : t = (0, (z : Rat)) := by simpa using ht
    subst this
    simp; omega
/-- a product, in bounds that are let -/
structure MulOk (D E M N : Nat) (R T : Int) : Prop where
  d0 : 0 < D
  e0 : 0 < E
  d4 : D < 2 ^ 200
  e4 : E < 2 ^ 200
  m4 : M < 2 ^ 200
  n4 : N < 2 ^ 200
  r0 : 0 ≤ R
  t0 : 0 ≤ T
  r4 : R ≤ 1000
  t4 : T ≤ 1000
theorem MulOk.lm {D E M N : Nat} {R T : Int} (h : MulOk D E M N R T) : Lm (D * E) (M * N) sizeLine := by
  have e : (2 : Nat) ^ 200 * 2 ^ 200 = 2 ^ 400 := by rw [← Nat.pow_add]
  exact ⟨Nat.mul_pos h.d0 h.e0, by rw [← e]; exact Nat.mul_lt_mul'' h.d4 h.e4, by rw [← e]; exact Nat.mul_lt_mul'' h.m4 h.n4, Nat.le_refl _⟩
theorem lt400 {n : Nat} (h : n < 2 ^ 200) : n < 2 ^ 400 := Nat.lt_trans h (Nat.pow_lt_pow_right (by decide) (by decide))
theorem mul_run {D E M N : Nat} {R T : Int} (ok : MulOk D E M N R T) {a b : Tms} (ha : NB D M R a) (hb : NB E N T b) :
    m_times [.fz (encN a), .fz (encN b)] = some (.fz (encN (mulN a b)), [.fz (encN a), .fz (encN b)]) ∧ NB (D * E) (M * N) (R + T) (mulN a b) := by
  have la := ha.len ok.r0
  have lb := hb.len ok.t0
  have ra := ok.r4
  have rb := ok.t4
  have h1 : a.length ≤ 2001 := by omega
  have h2 : b.length ≤ 2001 := by omega
  have h3 : a.length * b.length ≤ 2001 * 2001 := Nat.mul_le_mul h1 h2
  obtain ⟨e1, g⟩ := times_run (L := sizeLine) ok.lm ok.d0 ok.e0 (lt400 ok.d4) (lt400 ok.e4) (lt400 ok.m4) (lt400 ok.n4) ha.bd hb.bd (by rw [x_size]; omega)
  exact ⟨e1, g.cn, g.bd⟩
/-! ### led_by_number -/
def ledN (p : List Tms) (b : Tms) : List Tms := p.map fun a => mulN a b
theorem led_run {D E M N : Nat} {R T : Int} (ok : MulOk D E M N R T) {p : List Tms} {b : Tms} (hp : ∀ a ∈ p, NB D M R a) (hb : NB E N T b) (hl : p.length ≤ 100) :
    m_led_by_number [.fz (encP p), .fz (encN b)] = some (.ol (((ledN p b).map encN).map OV.fz), [.fz (encP p), .fz (encN b)]) ∧ ∀ c ∈ ledN p b, NB (D * E) (M * N) (R + T) c := by
  refine ⟨?_, fun c hc => by obtain ⟨a, ha, rfl⟩ := List.mem_map.mp hc; exact (mul_run ok (hp a ha) hb).2⟩
  have hlc := eLc_map (vs := [2]) (fi := iSeq (eVar 0)) (gv := tgN 2) (ft := bYes) (f := ce_led_by_number_1) encN (fun _ => true) (fun a => OV.fz (encN (mulN a b))) (as := p)
    (S0 := [.v (.fz (encP p)), .v (.fz (encN b)), .un]) (S := [.v (.fz (encP p)), .v (.fz (encN b)), .un]) (by simp [encP, seqD]) (by rw [x_size]; omega) (fun a ha => by
      refine ⟨[.v (.fz (encP p)), .v (.fz (encN b)), .v (.fz (encN a))], _, by simp, rfl, fun _ => ⟨[.v (.fz (encP p)), .v (.fz (encN b)), .v (.fz (encN a))], ?_, rfl⟩, fun z => by cases z⟩
      simp [ce_led_by_number_1, gCallF, (mul_run ok (hp a ha) hb).1])
  have hft : p.filter (fun _ => true) = p := by simp
  rw [hft] at hlc
  simp only [m_led_by_number, mb_led_by_number, x_fnM, x_gRet]
  simp [-x_eLc, hlc, ledN, Function.comp_def]
/-! ### added -/
def addP (p q : List Tms) : List Tms := List.zipWith addN p q
theorem zip_enc (p q : List Tms) : zipD (p.map encN) (q.map encN) = (p.zip q).map fun x => PyData.tuple [encN x.1, encN x.2] := by
  rw [zipD_eq, List.zip_map, List.map_map]
  rfl
theorem added_run {D M N : Nat} {R : Int} (lm : Lm D (M + N) sizeLine) (hR : 0 ≤ R ∧ R ≤ 1000) {p q : List Tms} (hp : ∀ a ∈ p, NB D M R a) (hq : ∀ a ∈ q, NB D N R a) (hl : p.length ≤ 100) (hlq : q.length = p.length) :
    m_added [.fz (encP p), .fz (encP q)] = some (.ol (((addP p q).map encN).map OV.fz), [.fz (encP p), .fz (encP q)]) ∧ ∀ c ∈ addP p q, NB D (M + N) R c := by
  have hmem : ∀ x ∈ p.zip q, NB D M R x.1 ∧ NB D N R x.2 ∧ x.1.length + x.2.length ≤ sizeLine := fun x hx => by
    have h1 := hp _ (List.of_mem_zip hx).1
    have h2 := hq _ (List.of_mem_zip hx).2
    have := h1.len hR.1
    have := h2.len hR.1
    exact ⟨h1, h2, by rw [x_size]; omega⟩
  have e : addP p q = (p.zip q).map fun x => addN x.1 x.2 := by
    unfold addP
    rw [List.zip_eq_zipWith, List.map_zipWith]
  refine ⟨?_, fun c hc => ?_⟩
  · have hlc := eLc_map (vs := [2, 3]) (fi := iZip true (eVar 0) (eVar 1)) (gv := tgT 2 (tgCons (tgN 2) (tgCons (tgN 3) tgNil))) (ft := bYes) (f := ce_added_1) (fun x : Tms × Tms => PyData.tuple [encN x.1, encN x.2]) (fun _ => true) (fun x => OV.fz (encN (addN x.1 x.2))) (as := p.zip q)
      (S0 := [.v (.fz (encP p)), .v (.fz (encP q)), .un, .un]) (S := [.v (.fz (encP p)), .v (.fz (encP q)), .un, .un]) (by simp [encP, seqD, zip_enc]) (by rw [x_size, List.length_zip]; omega) (fun x hx => by
        obtain ⟨h1, h2, h3⟩ := hmem x hx
        refine ⟨[.v (.fz (encP p)), .v (.fz (encP q)), .v (.fz (encN x.1)), .v (.fz (encN x.2))], _, by simp, rfl, fun _ => ⟨[.v (.fz (encP p)), .v (.fz (encP q)), .v (.fz (encN x.1)), .v (.fz (encN x.2))], ?_, rfl⟩, fun z => by cases z⟩
        simp [ce_added_1, gLst', x_size, gCallF, total2_run lm h1 h2 h3])
    have hft : (p.zip q).filter (fun _ => true) = p.zip q := by simp
    rw [hft] at hlc
    simp only [m_added, mb_added, x_fnM, x_gRet]
    simp [-x_eLc, hlc, e, Function.comp_def]
  · rw [e] at hc
    obtain ⟨x, hx, rfl⟩ := List.mem_map.mp hc
    obtain ⟨h1, h2, h3⟩ := hmem x hx
    exact addN_nb lm h1 h2 h3
end PD
set_option Elab.async false
set_option linter.all false
set_option maxRecDepth 100000
set_option maxHeartbeats 4000000
set_option exponentiation.threshold 5000
namespace PD
open PySem L2 PD.G
def neg1 : Tms := [(0, ((-1 : Int) : Rat))]
/-- times_entry -/
def entP (p : List Tms) (b : Tms) (own : Bool) : List Tms := if own then addP (ledN p b ++ [[]]) ([] :: ledN p neg1) else ledN p b ++ [[]]
theorem ledN_len {p : List Tms} {b : Tms} : (ledN p b).length = p.length := by simp [ledN]
theorem addP_len {p q : List Tms} (h : q.length = p.length) : (addP p q).length = p.length := by simp [addP, h]
theorem entP_len {p : List Tms} {b : Tms} {own : Bool} : (entP p b own).length = p.length + 1 := by
  unfold entP
  split
  · rw [addP_len] <;> simp [ledN_len]
  · simp [ledN_len]
/-- the same number over a finer den -/
theorem NB.finer {D E M : Nat} {R : Int} {n : Tms} (h : NB D M R n) (hD : 0 < D) (hE : 0 < E) : NB (D * E) (M * E) R n := by
  refine ⟨h.cn, fun t ht => (nz_scale hD hE (h.bd.dv t ht)).2, ?_, h.bd.rg⟩
  refine Nat.le_trans (Nat.le_of_eq ?_) (Nat.mul_le_mul_right _ h.bd.le)
  have hdv := h.bd.dv
  clear h
  induction n with
  | nil => simp [l1]
  | cons t n ih =>
    rw [l1_cons, l1_cons, Nat.add_mul, ih fun x hx => hdv x (List.mem_cons_of_mem _ hx), (nz_scale hD hE (hdv t List.mem_cons_self)).1, Int.natAbs_mul]
    simp
theorem entry_run {D E M N : Nat} {R T : Int} (ok : MulOk D E M N R T) (hE : M * E + M * N < 2 ^ 400) (hT : R + T ≤ 1000) {p : List Tms} {b : Tms} (hp : ∀ a ∈ p, NB D M R a) (hb : NB E N T b) (hl : p.length ≤ 50) (own : Bool) :
    m_times_entry [.fz (encP p), .fz (encN b), .fz (.bool own)] = some (if own then .ol (((entP p b own).map encN).map OV.fz) else .fz (encP (entP p b own)), [.fz (encP p), .fz (encN b), .fz (.bool own)]) ∧
      ∀ c ∈ entP p b own, NB (D * E) (M * N + M * E) (R + T) c := by
  obtain ⟨e1, n1⟩ := led_run ok hp hb (by omega)
  have r0 := ok.r0
  have t0 := ok.t0
  have hneg : NB 1 1 0 neg1 := pm1_nb (.inr rfl) (Int.le_refl _)
  have ok1 : MulOk D 1 M 1 R 0 := ⟨ok.d0, by decide, ok.d4, by decide, ok.m4, by decide, ok.r0, Int.le_refl _, ok.r4, by decide⟩
  obtain ⟨e2, n2⟩ := led_run ok1 hp hneg (by omega)
  have n2' : ∀ c ∈ ledN p neg1, NB (D * E) (M * E) (R + T) c := fun c hc => by
    have := n2 c hc
    rw [Nat.mul_one, Nat.mul_one, Int.add_zero] at this
    exact (this.finer ok.d0 ok.e0).mono (Nat.le_refl _) (by omega)
  have hterm : m_term [.fz (.int 0), .fz (.tuple [.int (-1), .int 1])] = some (.fz (encN neg1), [.fz (.int 0), .fz (.tuple [.int (-1), .int 1])]) := term_run (z := -1) (by decide)
  have p1 : ∀ a ∈ ledN p b ++ [[]], NB (D * E) (M * N) (R + T) a := fun a ha => by
    rcases List.mem_append.mp ha with h | h
    · exact n1 a h
    · have : a = [] := by simpa using h
      rw [this]; exact NB.nil
  have p2 : ∀ a ∈ [] :: ledN p neg1, NB (D * E) (M * E) (R + T) a := fun a ha => by
    rcases List.mem_cons.mp ha with h | h
    · rw [h]; exact NB.nil
    · exact n2' a h
  have lm2 : Lm (D * E) (M * N + M * E) sizeLine := ⟨ok.lm.d0, ok.lm.d1, by omega, Nat.le_refl _⟩
  obtain ⟨e3, n3⟩ := added_run lm2 ⟨by omega, hT⟩ p1 p2 (by simp [ledN_len]; omega) (by simp [ledN_len])
  have hs1 : seqX (.ol (((ledN p b).map encN).map OV.fz)) = some ((ledN p b).map encN) := allFz_fz _
  have hs2 : seqX (.ol (((ledN p neg1).map encN).map OV.fz)) = some ((ledN p neg1).map encN) := allFz_fz _
  have haf : ∀ xs : List PyData, allFz (xs.map OV.fz ++ [OV.fz (.tuple [])]) = some (xs ++ [PyData.tuple []]) := fun xs => by
    have : xs.map OV.fz ++ [OV.fz (.tuple [])] = (xs ++ [PyData.tuple []]).map OV.fz := by simp
    rw [this, allFz_fz]
  have haf2 : ∀ xs : List PyData, allFz (OV.fz (.tuple []) :: xs.map OV.fz) = some (PyData.tuple [] :: xs) := fun xs => by
    have : OV.fz (.tuple []) :: xs.map OV.fz = (PyData.tuple [] :: xs).map OV.fz := by simp
    rw [this, allFz_fz]
  have hl1 : (ledN p b).length ≤ 16777215 := by rw [ledN_len]; omega
  have hl2 : (ledN p neg1).length ≤ 16777215 := by rw [ledN_len]; omega
  have her : ∀ xs : List PyData, (OV.ol (xs.map OV.fz ++ [OV.fz (.tuple [])])).erase = .list (xs ++ [PyData.tuple []]) := fun xs => by
    have : xs.map OV.fz ++ [OV.fz (.tuple [])] = (xs ++ [PyData.tuple []]).map OV.fz := by simp
    rw [this, erase_fzs]
  have her2 : ∀ xs : List PyData, (OV.ol (OV.fz (.tuple []) :: xs.map OV.fz)).erase = .list (PyData.tuple [] :: xs) := fun xs => by
    have : OV.fz (.tuple []) :: xs.map OV.fz = (PyData.tuple [] :: xs).map OV.fz := by simp
    rw [this, erase_fzs]
  have ep1 : encP (ledN p b ++ [[]]) = .list ((ledN p b).map encN ++ [PyData.tuple []]) := by simp [encP, encN]
  have ep2 : encP ([] :: ledN p neg1) = .list (PyData.tuple [] :: (ledN p neg1).map encN) := by simp [encP, encN]
  rw [ep1, ep2] at e3
  cases own with
  | false =>
    refine ⟨?_, fun c hc => (p1 c (by simpa [entP] using hc)).mono (by omega) (Int.le_refl _)⟩
    simp only [m_times_entry, mb_times_entry, x_fnM, x_gSeq, x_gSet, x_oFr, x_eCall, x_aStar, x_aCons, x_aNil]
    simp [gCallF, e1, hs1, gTup', gLst', x_size, haf, -List.map_map, hl1, -x_erase_ol, her]
    simp [entP, encP, encN]
  | true =>
    refine ⟨?_, fun c hc => n3 c (by simpa [entP] using hc)⟩
    simp only [m_times_entry, mb_times_entry, x_fnM, x_gSeq, x_gSet, x_oFr, x_eCall, x_aStar, x_aCons, x_aNil]
    simp [gCallF, e1, hs1, gTup', gLst', x_size, haf, -List.map_map, hl1, -x_erase_ol, her, gNeg, hterm, e2, hs2, haf2, hl2, her2, e3]
    simp [entP]
end PD
set_option Elab.async false
set_option linter.all false
set_option maxRecDepth 100000
set_option maxHeartbeats 4000000
set_option exponentiation.threshold 5000
namespace PD
open PySem L2 PD.G
/-! ### tables, tellings -/
abbrev Side := Int × Int × Option Int
abbrev Row := List Side × Option (Int × Option Int)
abbrev Tell := List (List Tms × Tms)
def encO : Option Int → PyData
  | none => .none
  | some i => .int i
def encS (s : Side) : PyData := .tuple [.int s.1, .int s.2.1, encO s.2.2]
def encRt : Option (Int × Option Int) → PyData
  | none => .none
  | some r => .tuple [.int r.1, encO r.2]
def encRow (r : Row) : PyData := .tuple [.tuple (r.1.map encS), encRt r.2]
def encTab (n : Nat) (rows : List Row) : PyData := .tuple [.int n, .tuple (rows.map encRow)]
def encTl1 (t : List Tms × Tms) : PyData := .tuple [.tuple (t.1.map encN), encN t.2]
def encTl (t : Tell) : PyData := .tuple (t.map encTl1)
/-- the numbers of the unknown u in a row -/
def pickN (ss : List Side) (ns : List Tms) (u : Int) : List Tms := ((ss.zip ns).filter fun x => x.1.1 == u).map (·.2)
def entN (ss : List Side) (ns : List Tms) (u : Int) : Tms := cano (pickN ss ns u).flatten
def rowN (n : Nat) (r : Row) (t : List Tms × Tms) : List Tms := (List.range n).map fun (u : Nat) => entN r.1 t.1 (u : Int)
def matN (n : Nat) (rows : List Row) (t : Tell) : List (List Tms) := (rows.zip t).map fun x => rowN n x.1 x.2
def encM (m : List (List Tms)) : PyData := .list (m.map fun r => .list (r.map encN))
/-- a row's numbers -/
structure RowOk (D M : Nat) (R : Int) (r : Row) (t : List Tms × Tms) : Prop where
  len : t.1.length = r.1.length
  few : r.1.length ≤ 9
  nb : ∀ a ∈ t.1, NB D M R a
theorem pick_bd {D M : Nat} {R : Int} : ∀ {ss : List Side} {ns : List Tms} (u : Int), (∀ a ∈ ns, NB D M R a) → Bd D (ns.length * M) R (pickN ss ns u).flatten ∧ (pickN ss ns u).length ≤ ns.length ∧ ∀ a ∈ pickN ss ns u, NB D M R a
  | [], ns, u, h => ⟨Bd.nil, Nat.zero_le _, fun a ha => by simp [pickN] at ha⟩
  | s :: ss, [], u, h => ⟨Bd.nil, Nat.zero_le _, fun a ha => by simp [pickN] at ha⟩
  | s :: ss, n :: ns, u, h => by
    obtain ⟨h1, h2, h3⟩ := pick_bd (ss := ss) (ns := ns) u fun a ha => h a (List.mem_cons_of_mem _ ha)
    have hn := h n List.mem_cons_self
    have e : pickN (s :: ss) (n :: ns) u = if s.1 == u then n :: pickN ss ns u else pickN ss ns u := by
      unfold pickN
      rw [List.zip_cons_cons, List.filter_cons]
      split <;> simp
    rw [e]
    split
    · refine ⟨?_, by simp; omega, fun a ha => by
        rcases List.mem_cons.mp ha with z | z
        · rw [z]; exact hn
        · exact h3 a z⟩
      rw [List.flatten_cons, List.length_cons, Nat.succ_mul, Nat.add_comm]
      exact hn.bd.append h1
    · exact ⟨h1.mono (by rw [List.length_cons, Nat.succ_mul]; omega) (Int.le_refl _), by simp; omega, h3⟩
theorem flat_len {D M : Nat} {R : Int} (hR : 0 ≤ R) : ∀ {ns : List Tms}, (∀ a ∈ ns, NB D M R a) → (ns.flatten.length : Int) ≤ ns.length * (2 * R + 1)
  | [], _ => by simp
  | n :: ns, h => by
    have h1 := (h n List.mem_cons_self).len hR
    have h2 := flat_len hR fun a ha => h a (List.mem_cons_of_mem _ ha)
    rw [List.flatten_cons, List.length_append, List.length_cons]
    push_cast
    rw [Int.add_mul]
    omega
/-- what bounds a row's sums -/
structure SumOk (D M : Nat) (R : Int) : Prop where
  d0 : 0 < D
  d4 : D < 2 ^ 200
  m4 : 9 * M < 2 ^ 200
  r0 : 0 ≤ R
  r4 : R ≤ 1000
theorem SumOk.lm {D M : Nat} {R : Int} (h : SumOk D M R) : Lm D (9 * M) sizeLine := ⟨h.d0, lt400 h.d4, lt400 h.m4, Nat.le_refl _⟩
theorem ent_run {D M : Nat} {R : Int} (ok : SumOk D M R) {r : Row} {t : List Tms × Tms} (h : RowOk D M R r t) (u : Int) {o : PyData} (ho : seqD (.fz o) = some ((pickN r.1 t.1 u).map encN)) :
    m_total [.fz o] = some (.fz (encN (entN r.1 t.1 u)), [.fz o]) ∧ NB D (9 * M) R (entN r.1 t.1 u) := by
  obtain ⟨h1, h2, h3⟩ := pick_bd (ss := r.1) (ns := t.1) u h.nb
  have hl := h.len
  have hf := h.few
  have h1' : Bd D (9 * M) R (pickN r.1 t.1 u).flatten := h1.mono (Nat.mul_le_mul_right _ (by omega)) (Int.le_refl _)
  have h4 := flat_len ok.r0 h3
  have hr := ok.r4
  have h5 : ((pickN r.1 t.1 u).length : Int) * (2 * R + 1) ≤ 9 * 2001 := by
    have a : ((pickN r.1 t.1 u).length : Int) ≤ 9 := by omega
    have b : 2 * R + 1 ≤ 2001 := by omega
    have r0 := ok.r0
    exact Int.mul_le_mul a b (by omega) (by omega)
  obtain ⟨e, g⟩ := total_run ok.lm ho h1' (by rw [x_size]; omega)
  exact ⟨e, g.cn, g.bd⟩
theorem row_loop {D M : Nat} {R : Int} (ok : SumOk D M R) {r : Row} {t : List Tms × Tms} (h : RowOk D M R r t) {s0 s1 s2 s4 s6 : SV} : ∀ (us : List Nat) (acc : List Tms) (x9 x10 : SV), acc.length + us.length ≤ 1000 → (x9 = .un ∧ x10 = .un) →
    forL [8] fg_matrix_of_1 fb_matrix_of_1 (us.map fun (u : Nat) => PyData.int (u : Int)) [s0, s1, s2, .v (.fz (.tuple (r.1.map encS))), s4, .v (.fz (.tuple (t.1.map encN))), s6, .v (.ol ((acc.map encN).map OV.fz)), .un, x9, x10] =
      some (.nx, [s0, s1, s2, .v (.fz (.tuple (r.1.map encS))), s4, .v (.fz (.tuple (t.1.map encN))), s6, .v (.ol (((acc ++ us.map fun (u : Nat) => entN r.1 t.1 (u : Int)).map encN).map OV.fz)), .un, .un, .un])
  | [], acc, x9, x10, hz, hx => by obtain ⟨rfl, rfl⟩ := hx; simp [forL]
  | u :: us, acc, x9, x10, hz, hx => by
    obtain ⟨rfl, rfl⟩ := hx
    have ih := row_loop ok h (s0 := s0) (s1 := s1) (s2 := s2) (s4 := s4) (s6 := s6) us (acc ++ [entN r.1 t.1 (u : Int)]) .un .un (by simp at hz ⊢; omega) ⟨rfl, rfl⟩
    have hz2 : (r.1.zip t.1).length ≤ 9 := by rw [List.length_zip]; have := h.few; omega
    have hlc := eLc_map (vs := [9, 10]) (fi := iZip true (eVar 3) (eVar 5)) (gv := tgT 2 (tgCons (tgN 9) (tgCons (tgN 10) tgNil))) (ft := bOf (eBin gEq true (eBin gIx true (eVar 9) (eC (.int 0))) (eVar 8))) (f := ce_matrix_of_1)
      (fun x : Side × Tms => PyData.tuple [encS x.1, encN x.2]) (fun x => x.1.1 == (u : Int)) (fun x => OV.fz (encN x.2)) (as := r.1.zip t.1)
      (S0 := [s0, s1, s2, .v (.fz (.tuple (r.1.map encS))), s4, .v (.fz (.tuple (t.1.map encN))), s6, .v (.ol ((acc.map encN).map OV.fz)), .v (.fz (.int u)), .un, .un])
      (S := [s0, s1, s2, .v (.fz (.tuple (r.1.map encS))), s4, .v (.fz (.tuple (t.1.map encN))), s6, .v (.ol ((acc.map encN).map OV.fz)), .v (.fz (.int u)), .un, .un])
      (by
        simp [seqD]
        rw [zipD_eq, List.zip_map, List.map_map]
        rfl) (by rw [x_size]; omega) (fun x hx => by
        refine ⟨[s0, s1, s2, .v (.fz (.tuple (r.1.map encS))), s4, .v (.fz (.tuple (t.1.map encN))), s6, .v (.ol ((acc.map encN).map OV.fz)), .v (.fz (.int u)), .v (.fz (encS x.1)), .v (.fz (encN x.2))],
          [s0, s1, s2, .v (.fz (.tuple (r.1.map encS))), s4, .v (.fz (.tuple (t.1.map encN))), s6, .v (.ol ((acc.map encN).map OV.fz)), .v (.fz (.int u)), .v (.fz (encS x.1)), .v (.fz (encN x.2))], by simp, ?_, fun _ => ⟨[s0, s1, s2, .v (.fz (.tuple (r.1.map encS))), s4, .v (.fz (.tuple (t.1.map encN))), s6, .v (.ol ((acc.map encN).map OV.fz)), .v (.fz (.int u)), .v (.fz (encS x.1)), .v (.fz (encN x.2))], ?_, rfl⟩, fun _ => rfl⟩
        · simp [encS, gIx, atI, ixN, gEq]
        · simp [ce_matrix_of_1])
    have hst : (if (r.1.zip t.1).isEmpty = true then ([s0, s1, s2, .v (.fz (.tuple (r.1.map encS))), s4, .v (.fz (.tuple (t.1.map encN))), s6, .v (.ol ((acc.map encN).map OV.fz)), .v (.fz (.int u)), .un, .un] : SS) else wipeS [9, 10] [s0, s1, s2, .v (.fz (.tuple (r.1.map encS))), s4, .v (.fz (.tuple (t.1.map encN))), s6, .v (.ol ((acc.map encN).map OV.fz)), .v (.fz (.int u)), .un, .un]) = [s0, s1, s2, .v (.fz (.tuple (r.1.map encS))), s4, .v (.fz (.tuple (t.1.map encN))), s6, .v (.ol ((acc.map encN).map OV.fz)), .v (.fz (.int u)), .un, .un] := by
      split <;> rfl
    rw [hst] at hlc
    have hp : ((r.1.zip t.1).filter fun x => x.1.1 == (u : Int)).map (fun x => OV.fz (encN x.2)) = ((pickN r.1 t.1 u).map encN).map OV.fz := by
      unfold pickN
      rw [List.map_map, List.map_map]
      rfl
    rw [hp] at hlc
    have her : (OV.ol (((pickN r.1 t.1 u).map encN).map OV.fz)).erase = .list ((pickN r.1 t.1 u).map encN) := erase_fzs _
    have htot := (ent_run ok h (u : Int) (o := .list ((pickN r.1 t.1 u).map encN)) rfl).1
    have hb1 : fg_matrix_of_1 (.int (u : Int)) [s0, s1, s2, .v (.fz (.tuple (r.1.map encS))), s4, .v (.fz (.tuple (t.1.map encN))), s6, .v (.ol ((acc.map encN).map OV.fz)), .un, .un, .un] = some [s0, s1, s2, .v (.fz (.tuple (r.1.map encS))), s4, .v (.fz (.tuple (t.1.map encN))), s6, .v (.ol ((acc.map encN).map OV.fz)), .v (.fz (.int u)), .un, .un] := by simp [fg_matrix_of_1]
    have hb2 : fb_matrix_of_1 [s0, s1, s2, .v (.fz (.tuple (r.1.map encS))), s4, .v (.fz (.tuple (t.1.map encN))), s6, .v (.ol ((acc.map encN).map OV.fz)), .v (.fz (.int u)), .un, .un] =
        some (.nx, [s0, s1, s2, .v (.fz (.tuple (r.1.map encS))), s4, .v (.fz (.tuple (t.1.map encN))), s6, .v (.ol (((acc ++ [entN r.1 t.1 (u : Int)]).map encN).map OV.fz)), .v (.fz (.int u)), .un, .un]) := by
      have hac : acc.length ≤ 16777215 := by simp at hz; omega
      unfold fb_matrix_of_1
      simp [-x_eLc, hlc, gCallF, -x_erase_ol, her, htot, isOl, getS, SV.ov, modS, SV.put, x_size, hac, -List.map_map]
      omega
    rw [List.map_cons]
    unfold forL
    simp only [hb1, hb2]
    have e2 : acc ++ (u :: us).map (fun u : Nat => entN r.1 t.1 (u : Int)) = (acc ++ [entN r.1 t.1 (u : Int)]) ++ us.map fun (u : Nat) => entN r.1 t.1 (u : Int) := by simp
    rw [e2]
    exact ih
theorem rangeD0 (n : Nat) : rangeD 0 n = (List.range n).map fun (u : Nat) => PyData.int (u : Int) := by
  unfold rangeD
  apply List.map_congr_left
  intro i _
  rw [Int.zero_add]
theorem mat_body {D M : Nat} {R : Int} (ok : SumOk D M R) {n : Nat} (hn : n ≤ 100) {rows0 : List Row} {s1 : SV} (x : Row × List Tms × Tms) (hx : RowOk D M R x.1 x.2) (acc : List (List Tms)) (hac : acc.length < sizeLine) :
    fb_matrix_of_2 [.v (.fz (encTab n rows0)), s1, .v (.ol ((acc.map fun r => PyData.list (r.map encN)).map OV.fz)), .v (.fz (.tuple (x.1.1.map encS))), .v (.fz (encRt x.1.2)), .v (.fz (.tuple (x.2.1.map encN))), .v (.fz (encN x.2.2)), .un, .un, .un, .un] =
        some (.nx, [.v (.fz (encTab n rows0)), s1, .v (.ol (((acc ++ [rowN n x.1 x.2]).map fun r => PyData.list (r.map encN)).map OV.fz)), .v (.fz (.tuple (x.1.1.map encS))), .v (.fz (encRt x.1.2)), .v (.fz (.tuple (x.2.1.map encN))), .v (.fz (encN x.2.2)), .v (.fz (.list ((rowN n x.1 x.2).map encN))), .un, .un, .un]) := by
    have hrow := row_loop ok hx (s0 := .v (.fz (encTab n rows0))) (s1 := s1) (s2 := .v (.ol ((acc.map fun r => PyData.list (r.map encN)).map OV.fz))) (s4 := .v (.fz (encRt x.1.2))) (s6 := .v (.fz (encN x.2.2))) (List.range n) [] .un .un (by rw [List.length_range]; show 0 + n ≤ 1000; omega) ⟨rfl, rfl⟩
    rw [← rangeD0] at hrow
    have hfor : gFor [8] (iRange1 (eBin gIx true (eVar 0) (eC (.int 0)))) fg_matrix_of_1 fb_matrix_of_1 [.v (.fz (encTab n rows0)), s1, .v (.ol ((acc.map fun r => PyData.list (r.map encN)).map OV.fz)), .v (.fz (.tuple (x.1.1.map encS))), .v (.fz (encRt x.1.2)), .v (.fz (.tuple (x.2.1.map encN))), .v (.fz (encN x.2.2)), .v (.ol []), .un, .un, .un] =
        some (.nx, [.v (.fz (encTab n rows0)), s1, .v (.ol ((acc.map fun r => PyData.list (r.map encN)).map OV.fz)), .v (.fz (.tuple (x.1.1.map encS))), .v (.fz (encRt x.1.2)), .v (.fz (.tuple (x.2.1.map encN))), .v (.fz (encN x.2.2)), .v (.ol (((rowN n x.1 x.2).map encN).map OV.fz)), .un, .un, .un]) := by
      have hok : okR (n : Int) = true := decide_eq_true ⟨by omega, by omega⟩
      have hi : iRange1 (eBin gIx true (eVar 0) (eC (.int 0))) [.v (.fz (encTab n rows0)), s1, .v (.ol ((acc.map fun r => PyData.list (r.map encN)).map OV.fz)), .v (.fz (.tuple (x.1.1.map encS))), .v (.fz (encRt x.1.2)), .v (.fz (.tuple (x.2.1.map encN))), .v (.fz (encN x.2.2)), .v (.ol []), .un, .un, .un] =
          some (rangeD 0 n, [.v (.fz (encTab n rows0)), s1, .v (.ol ((acc.map fun r => PyData.list (r.map encN)).map OV.fz)), .v (.fz (.tuple (x.1.1.map encS))), .v (.fz (encRt x.1.2)), .v (.fz (.tuple (x.2.1.map encN))), .v (.fz (encN x.2.2)), .v (.ol []), .un, .un, .un]) := by
        simp [encTab, gIx, atI, ixN, hok]
      exact gFor_of hi hrow
    have her : (OV.ol (((rowN n x.1 x.2).map encN).map OV.fz)).erase = .list ((rowN n x.1 x.2).map encN) := erase_fzs _
    unfold fb_matrix_of_2
    generalize rowN n x.1 x.2 = rw' at *
    simp [-x_gFor, hfor, gLst', -x_erase_ol, her, isOl, getS, SV.ov, modS, SV.put, hac, -List.map_map]
theorem mat_target {tab : PyData} {s1 s2 : SV} (x : Row × List Tms × Tms) : fg_matrix_of_2 (.tuple [encRow x.1, encTl1 x.2]) [.v (.fz tab), s1, s2, .un, .un, .un, .un, .un, .un, .un, .un] =
      some [.v (.fz tab), s1, s2, .v (.fz (.tuple (x.1.1.map encS))), .v (.fz (encRt x.1.2)), .v (.fz (.tuple (x.2.1.map encN))), .v (.fz (encN x.2.2)), .un, .un, .un, .un] := by simp [fg_matrix_of_2, encRow, encTl1]
theorem mat_loop {D M : Nat} {R : Int} (ok : SumOk D M R) {n : Nat} (hn : n ≤ 100) {rows0 : List Row} {s1 : SV} (xs : List (Row × List Tms × Tms)) : ∀ (acc : List (List Tms)), (∀ x ∈ xs, RowOk D M R x.1 x.2) → acc.length + xs.length ≤ 1000 →
    forL [3, 4, 5, 6, 7, 8] fg_matrix_of_2 fb_matrix_of_2 (xs.map fun x => PyData.tuple [encRow x.1, encTl1 x.2]) [.v (.fz (encTab n rows0)), s1, .v (.ol ((acc.map fun r => PyData.list (r.map encN)).map OV.fz)), .un, .un, .un, .un, .un, .un, .un, .un] =
      some (.nx, [.v (.fz (encTab n rows0)), s1, .v (.ol (((acc ++ xs.map fun x => rowN n x.1 x.2).map fun r => PyData.list (r.map encN)).map OV.fz)), .un, .un, .un, .un, .un, .un, .un, .un]) := by
  induction xs with
  | nil => intro acc h hz; rw [List.map_nil, List.map_nil, List.append_nil]; rfl
  | cons x xs ihx =>
    intro acc h hz
    have hx := h x List.mem_cons_self
    rw [List.length_cons] at hz
    have ih := ihx (acc ++ [rowN n x.1 x.2]) (fun y hy => h y (List.mem_cons_of_mem _ hy)) (by rw [List.length_append, List.length_singleton]; omega)
    have hb2 := mat_body ok hn (rows0 := rows0) (s1 := s1) x hx acc (by rw [x_size]; omega)
    have hb1 := mat_target (tab := encTab n rows0) (s1 := s1) (s2 := .v (.ol ((acc.map fun r => PyData.list (r.map encN)).map OV.fz))) x
    have e2 : acc ++ (x :: xs).map (fun x : Row × List Tms × Tms => rowN n x.1 x.2) = (acc ++ [rowN n x.1 x.2]) ++ xs.map fun x : Row × List Tms × Tms => rowN n x.1 x.2 := by rw [List.map_cons, List.append_assoc]; rfl
    rw [List.map_cons, e2, forL_cons hb1 hb2]
    exact ih
theorem matrix_run {D M : Nat} {R : Int} (ok : SumOk D M R) {n : Nat} (hn : n ≤ 100) {rows : List Row} {tl : Tell} (h : ∀ x ∈ rows.zip tl, RowOk D M R x.1 x.2) (hl : rows.length ≤ 100) :
    m_matrix_of [.fz (encTab n rows), .fz (encTl tl)] = some (.ol (((matN n rows tl).map fun r => PyData.list (r.map encN)).map OV.fz), [.fz (encTab n rows), .fz (encTl tl)]) := by
  have hloop := mat_loop ok hn (rows0 := rows) (s1 := .v (.fz (encTl tl))) (rows.zip tl) [] h (by simp; omega)
  have hfor : gFor [3, 4, 5, 6, 7, 8] (iZip true (eBin gIx true (eVar 0) (eC (.int 1))) (eVar 1)) fg_matrix_of_2 fb_matrix_of_2 [.v (.fz (encTab n rows)), .v (.fz (encTl tl)), .v (.ol []), .un, .un, .un, .un, .un, .un, .un, .un] =
      some (.nx, [.v (.fz (encTab n rows)), .v (.fz (encTl tl)), .v (.ol (((matN n rows tl).map fun r => PyData.list (r.map encN)).map OV.fz)), .un, .un, .un, .un, .un, .un, .un, .un]) := by
    have hz : zipD (rows.map encRow) (tl.map encTl1) = (rows.zip tl).map fun x => PyData.tuple [encRow x.1, encTl1 x.2] := by
      rw [zipD_eq, List.zip_map, List.map_map]
      rfl
    have hi : iZip true (eBin gIx true (eVar 0) (eC (.int 1))) (eVar 1) [.v (.fz (encTab n rows)), .v (.fz (encTl tl)), .v (.ol []), .un, .un, .un, .un, .un, .un, .un, .un] =
        some ((rows.zip tl).map fun x => PyData.tuple [encRow x.1, encTl1 x.2], [.v (.fz (encTab n rows)), .v (.fz (encTl tl)), .v (.ol []), .un, .un, .un, .un, .un, .un, .un, .un]) := by
      simp [encTab, encTl, gIx, atI, ixN, seqD, hz]
    exact gFor_of hi hloop
  simp only [m_matrix_of, mb_matrix_of, x_fnM, x_gSeq, x_gSet, x_gRetV]
  simp [-x_gFor, hfor, gLst', x_size, -List.map_map]
/-- the entries are within bounds -/
theorem mat_nb {D M : Nat} {R : Int} (ok : SumOk D M R) {n : Nat} {rows : List Row} {tl : Tell} (h : ∀ x ∈ rows.zip tl, RowOk D M R x.1 x.2) : ∀ row ∈ matN n rows tl, row.length = n ∧ ∀ a ∈ row, NB D (9 * M) R a := fun row hr => by
  obtain ⟨x, hx, rfl⟩ := List.mem_map.mp hr
  refine ⟨by simp [rowN], fun a ha => ?_⟩
  obtain ⟨u, _, rfl⟩ := List.mem_map.mp ha
  exact (ent_run ok (h x hx) (u : Int) (o := .list ((pickN x.1.1 x.2.1 u).map encN)) rfl).2
end PD
set_option Elab.async false
set_option linter.all false
set_option maxRecDepth 100000
set_option maxHeartbeats 4000000
set_option exponentiation.threshold 5000
namespace PD
open PySem L2 PD.G
/-! ### the table of columns -/
abbrev CT := List (List Nat × List Tms)
def encK (S : List Nat) : PyData := .tuple (S.map fun (c : Nat) => PyData.int (c : Int))
def kk (S : List Nat) : List Key := S.map fun (c : Nat) => Sum.inl (c : Int)
def encPo (p : List Tms) : OV := .ol ((p.map encN).map OV.fz)
def encCT (D : CT) : OV := .ot (D.map fun e => kk e.1) (D.map fun e => encPo e.2)
theorem kk_inj {S T : List Nat} (h : kk S = kk T) : S = T := by
  unfold kk at h
  exact List.map_inj_right (fun a b e => by have := Sum.inl.inj e; omega) |>.mp h
theorem tk_encK (S : List Nat) : tkOf (encK S) = some (kk S) := by
  have : encK S = kT (kk S) := by
    unfold encK kT kk
    rw [List.map_map]
    rfl
  rw [this, tkOf_kT]
theorem key_encK (S : List Nat) : keyOf (encK S) = none := rfl
def getP (S : List Nat) : CT → Option (List Tms)
  | [] => none
  | e :: D => if e.1 = S then some e.2 else getP S D
def putP (S : List Nat) (p : List Tms) : CT → CT
  | [] => [(S, p)]
  | e :: D => if e.1 = S then (S, p) :: D else e :: putP S p D
theorem look_CT (S : List Nat) : ∀ D : CT, lookO (kk S) (D.map fun e => kk e.1) (D.map fun e => encPo e.2) = (getP S D).map encPo
  | [] => rfl
  | e :: D => by
    simp only [List.map_cons, lookO, getP]
    by_cases h : e.1 = S
    · simp [h]
    · rw [if_neg h, if_neg (fun z => h (kk_inj z)), look_CT S D]
theorem put_CT (S : List Nat) (p : List Tms) : ∀ D : CT, putO (kk S) (encPo p) (D.map fun e => kk e.1) (D.map fun e => encPo e.2) = ((putP S p D).map (fun e => kk e.1), (putP S p D).map fun e => encPo e.2)
  | [] => rfl
  | e :: D => by
    simp only [List.map_cons, putO, putP]
    by_cases h : e.1 = S
    · simp [h]
    · rw [if_neg h, if_neg (fun z => h (kk_inj z)), put_CT S p D]
      rfl
theorem dg_CT (S : List Nat) (D : CT) : dgO (encCT D) (encK S) = some ((getP S D).map encPo) := by
  unfold dgO
  rw [key_encK, tk_encK]
  simp only [encCT, dictT, Option.map_some, look_CT]
theorem putD_CT {S : List Nat} {p : List Tms} {D : CT} (h : (D.map (·.1)).Nodup) (hl : D.length < sizeLine) : putD (encCT D) (encK S) (encPo p) = some (encCT (putP S p D)) := by
  have hn : (D.map fun e => kk e.1).Nodup := by
    have : (D.map fun e => kk e.1) = (D.map (·.1)).map kk := by rw [List.map_map]; rfl
    rw [this]
    exact List.Pairwise.map _ (fun a b hab z => hab (kk_inj z)) h
  unfold putD encCT
  simp only [tk_encK, List.length_map]
  rw [if_pos ⟨hn, hl⟩, put_CT]
theorem putP_keys (S : List Nat) (p : List Tms) : ∀ D : CT, (∀ x, x ∈ (putP S p D).map (·.1) ↔ x = S ∨ x ∈ D.map (·.1)) ∧ ((D.map (·.1)).Nodup → ((putP S p D).map (·.1)).Nodup) ∧ (putP S p D).length ≤ D.length + 1
  | [] => by simp [putP]
  | e :: D => by
    unfold putP
    obtain ⟨h1, h2, h3⟩ := putP_keys S p D
    by_cases h : e.1 = S
    · rw [if_pos h]
      refine ⟨fun x => ?_, fun hn => ?_, by simp⟩
      · simp only [List.map_cons, List.mem_cons, h]
        grind
      · simpa only [List.map_cons, h] using hn
    · rw [if_neg h]
      refine ⟨fun x => ?_, fun hn => ?_, by simp only [List.length_cons]; omega⟩
      · simp only [List.map_cons, List.mem_cons, h1]
        grind
      · simp only [List.map_cons, List.nodup_cons] at hn ⊢
        exact ⟨fun z => by
          rcases (h1 _).mp z with z | z
          · exact h z
          · exact hn.1 z, h2 hn.2⟩
theorem putP_mem {S : List Nat} {p : List Tms} {u : List Nat × List Tms} : ∀ {D : CT}, u ∈ putP S p D → u = (S, p) ∨ u ∈ D
  | [], h => by simp [putP] at h; exact .inl h
  | t :: acc, h => by
    unfold putP at h
    split at h
    · rcases List.mem_cons.mp h with h | h
      · exact .inl h
      · exact .inr (List.mem_cons_of_mem _ h)
    · rcases List.mem_cons.mp h with h | h
      · exact .inr (h ▸ List.mem_cons_self)
      · exact (putP_mem h).imp id (List.mem_cons_of_mem _)
theorem getP_mem {S : List Nat} {q : List Tms} : ∀ {D : CT}, getP S D = some q → (S, q) ∈ D
  | t :: acc, h => by
    unfold getP at h
    split at h
    · rename_i e; cases h; rw [← e]; exact List.mem_cons_self
    · exact List.mem_cons_of_mem _ (getP_mem h)
/-! ### sorted -/
def ksrt (l : List Nat) : List Nat := l.mergeSort fun a b => decide (a ≤ b)
theorem srtD_nat (l : List Nat) : srtD (l.map fun (c : Nat) => PyData.int (c : Int)) = (ksrt l).map fun (c : Nat) => PyData.int (c : Int) := by
  unfold srtD ksrt
  have h := PySem.W.sort_maps (r := fun a b : Nat => decide (a ≤ b)) (s := PySem.W.dataLe false fun d : PyData => d) (fun (c : Nat) => PyData.int (c : Int)) (l := l) (fun a _ b _ => by
    have e := congrFun (congrFun (PySem.W.dataLe_int (fun c : Nat => (c : Int))) a) b
    have e2 : PySem.W.dataLe false (fun d : PyData => d) (PyData.int (a : Int)) (PyData.int (b : Int)) = PySem.W.dataLe false (fun c : Nat => PyData.int (c : Int)) a b := rfl
    rw [e2, e]
    simp)
  exact h.symm
theorem okSort_nat {l : List Nat} (h : l.length ≤ sizeLine) : okSort (l.map fun (c : Nat) => PyData.int (c : Int)) = true := by
  unfold okSort
  simp only [Bool.and_eq_true, List.all_eq_true, Bool.or_eq_true, decide_eq_true_eq, List.length_map, List.mem_map]
  refine ⟨fun d ⟨c, _, e⟩ => by subst e; simp [PyData.canLay0, PyData.depth], fun d ⟨c, _, e⟩ d' ⟨c', _, e'⟩ => by subst e e'; simp [PySem.W.alike], .inr fun d ⟨c, _, e⟩ => by subst e; rfl, h⟩
/-! ### one entry -/
def sgn (S : List Nat) (c : Nat) : Int := 1 - 2 * (((S.filter fun x => decide (c < x)).length : Int) % 2)
def ledE (i : Nat) (S : List Nat) (p : List Tms) (c : Nat) (b : Tms) : List Tms := ledN (entP p b (c == i)) [(0, (sgn S c : Rat))]
def putE (i : Nat) (S : List Nat) (p : List Tms) (L : CT) (c : Nat) (b : Tms) : CT :=
  if c ∈ S then L else putP (ksrt (S ++ [c])) (match getP (ksrt (S ++ [c])) L with
    | some q => addP q (ledE i S p c b)
    | none => ledE i S p c b) L
theorem sgn_pm (S : List Nat) (c : Nat) : sgn S c = 1 ∨ sgn S c = -1 := by
  unfold sgn
  omega
theorem gIn_K (S : List Nat) (c : Nat) : gIn true (.fz (.int (c : Int))) (.fz (encK S)) = some (.fz (.bool (!decide (c ∈ S)))) := by
  have hf : (S.map fun (c : Nat) => PyData.int (c : Int)).all flatD = true := by
    rw [List.all_eq_true]
    intro d hd
    obtain ⟨x, _, rfl⟩ := List.mem_map.mp hd
    rfl
  have ha : ((S.map fun (c : Nat) => PyData.int (c : Int)).any fun z => PyData.eqv z (.int (c : Int))) = decide (c ∈ S) := by
    rw [Bool.eq_iff_iff]
    simp only [List.any_eq_true, List.mem_map, decide_eq_true_eq]
    constructor
    · rintro ⟨d, ⟨x, hx, rfl⟩, e⟩
      simp at e
      have : x = c := by omega
      exact this ▸ hx
    · intro h
      exact ⟨_, ⟨c, h, rfl⟩, by simp⟩
  unfold gIn
  have hs : seqX (.fz (encK S)) = some (S.map fun (c : Nat) => PyData.int (c : Int)) := rfl
  rw [hs]
  simp only [hf, ha, show flatD (.int (c : Int)) = true from rfl, Bool.and_self, if_true]
abbrev Sf (a0 a1 a2 : SV) (i : Nat) (a4 : SV) (L : CT) (S : List Nat) (p : List Tms) (c : Nat) (b : Tms) (x10 x11 x12 x13 : SV) : SS :=
  [a0, a1, a2, .v (.fz (.int (i : Int))), a4, .v (encCT L), .v (.fz (encK S)), .v (.fz (encP p)), .v (.fz (.int (c : Int))), .v (.fz (encN b)), x10, x11, x12, x13, .un]
theorem behind_run {a0 a1 a2 a4 : SV} {i : Nat} {L : CT} {S : List Nat} {p : List Tms} {c : Nat} {b : Tms} (hS : S.length ≤ 100) :
    eLc [14] (iSeq (eVar 6)) (tgN 14) (bOf (eBin gGt true (eVar 14) (eVar 8))) ce_polynomial_of_1 (Sf a0 a1 a2 i a4 L S p c b .un .un .un .un) =
      some (.ol (((S.filter fun x => decide (c < x)).map fun (x : Nat) => PyData.int (x : Int)).map OV.fz), Sf a0 a1 a2 i a4 L S p c b .un .un .un .un) := by
  have h := eLc_map (vs := [14]) (fi := iSeq (eVar 6)) (gv := tgN 14) (ft := bOf (eBin gGt true (eVar 14) (eVar 8))) (f := ce_polynomial_of_1) (fun (x : Nat) => PyData.int (x : Int)) (fun x => decide (c < x)) (fun x => OV.fz (.int (x : Int))) (as := S)
    (S0 := Sf a0 a1 a2 i a4 L S p c b .un .un .un .un) (S := Sf a0 a1 a2 i a4 L S p c b .un .un .un .un) (by simp [encK, seqD]) (by rw [x_size]; omega) (fun x hx => by
      refine ⟨[a0, a1, a2, .v (.fz (.int (i : Int))), a4, .v (encCT L), .v (.fz (encK S)), .v (.fz (encP p)), .v (.fz (.int (c : Int))), .v (.fz (encN b)), .un, .un, .un, .un, .v (.fz (.int (x : Int)))],
        [a0, a1, a2, .v (.fz (.int (i : Int))), a4, .v (encCT L), .v (.fz (encK S)), .v (.fz (encP p)), .v (.fz (.int (c : Int))), .v (.fz (encN b)), .un, .un, .un, .un, .v (.fz (.int (x : Int)))], by simp, ?_, fun _ => ⟨[a0, a1, a2, .v (.fz (.int (i : Int))), a4, .v (encCT L), .v (.fz (encK S)), .v (.fz (encP p)), .v (.fz (.int (c : Int))), .v (.fz (encN b)), .un, .un, .un, .un, .v (.fz (.int (x : Int)))], ?_, rfl⟩, fun _ => rfl⟩
      · simp [gGt, gI]
      · simp [ce_polynomial_of_1])
  rw [h, List.map_map]
  refine congrArg some (Prod.ext rfl ?_)
  split <;> rfl
theorem sort_run {S : List Nat} {c : Nat} (hS : S.length ≤ 100) : gSortL (.ol ((S.map fun (x : Nat) => PyData.int (x : Int)).map OV.fz ++ [.fz (.int (c : Int))])) = some (.ol (((ksrt (S ++ [c])).map fun (x : Nat) => PyData.int (x : Int)).map OV.fz)) := by
  have e : (S.map fun (x : Nat) => PyData.int (x : Int)).map OV.fz ++ [.fz (.int (c : Int))] = ((S ++ [c]).map fun (x : Nat) => PyData.int (x : Int)).map OV.fz := by simp
  rw [e]
  unfold gSortL
  rw [if_pos (show isLst (.ol (((S ++ [c]).map fun (x : Nat) => PyData.int (x : Int)).map OV.fz)) = true from rfl)]
  unfold gSorted
  have hs : seqX (.ol (((S ++ [c]).map fun (x : Nat) => PyData.int (x : Int)).map OV.fz)) = some ((S ++ [c]).map fun (x : Nat) => PyData.int (x : Int)) := allFz_fz _
  rw [hs]
  simp only
  rw [if_pos (okSort_nat (by rw [x_size, List.length_append, List.length_singleton]; omega)), srtD_nat]
/-- what one entry asks for -/
structure EnOk (D E M N Q : Nat) (R T : Int) (S : List Nat) (p : List Tms) (b : Tms) (L : CT) : Prop where
  ok : MulOk D E M N R T
  de : D * E < 2 ^ 200
  mn : M * N + M * E < 2 ^ 200
  rt : R + T ≤ 1000
  q4 : Q + (M * N + M * E) < 2 ^ 200
  hp : ∀ a ∈ p, NB D M R a
  hb : NB E N T b
  hl : p.length ≤ 40
  hS : S.length ≤ 100
  nd : (L.map (·.1)).Nodup
  ll : L.length ≤ 10000
  hL : ∀ e ∈ L, e.2.length = p.length + 1 ∧ ∀ a ∈ e.2, NB (D * E) Q (R + T) a
theorem ledE_ok {D E M N Q : Nat} {R T : Int} {S : List Nat} {p : List Tms} {b : Tms} {L : CT} (h : EnOk D E M N Q R T S p b L) (i c : Nat) :
    m_led_by_number [.fz (encP (entP p b (c == i))), .fz (encN [(0, (sgn S c : Rat))])] = some (encPo (ledE i S p c b), [.fz (encP (entP p b (c == i))), .fz (encN [(0, (sgn S c : Rat))])]) ∧ (ledE i S p c b).length = p.length + 1 ∧ ∀ a ∈ ledE i S p c b, NB (D * E) (M * N + M * E) (R + T) a := by
  have r0 := h.ok.r0
  have t0 := h.ok.t0
  obtain ⟨_, n1⟩ := entry_run h.ok (by have := lt400 h.mn; omega) h.rt h.hp h.hb (by have := h.hl; omega) (c == i)
  have ok2 : MulOk (D * E) 1 (M * N + M * E) 1 (R + T) 0 := ⟨Nat.mul_pos h.ok.d0 h.ok.e0, by decide, h.de, by decide, h.mn, by decide, by omega, Int.le_refl _, h.rt, by decide⟩
  obtain ⟨e2, n2⟩ := led_run ok2 n1 (pm1_nb (sgn_pm S c) (Int.le_refl 0)) (by rw [entP_len]; have := h.hl; omega)
  refine ⟨e2, by rw [ledE, ledN_len, entP_len], fun a ha => ?_⟩
  have := n2 a ha
  rwa [Nat.mul_one, Nat.mul_one, Int.add_zero] at this
theorem stillO_encPo (p : List Tms) : stillO (encPo p) = true := by
  unfold encPo
  have key : ∀ l : List Tms, stillOs ((l.map encN).map OV.fz) = true := fun l => by
    induction l with
    | nil => rfl
    | cons a l ih =>
      simp only [List.map_cons, stillOs, Bool.and_eq_true]
      refine ⟨?_, ih⟩
      unfold stillO encN still
      have : ∀ ts : Tms, stillAll (ts.map encT) = true := fun ts => by
        induction ts with
        | nil => rfl
        | cons t ts ih2 =>
          simp only [List.map_cons, stillAll, Bool.and_eq_true]
          exact ⟨rfl, ih2⟩
      exact this a
  unfold stillO
  exact key p
theorem erase_encPo (p : List Tms) : (encPo p).erase = encP p := erase_fzs _
theorem putE_ok {D E M N Q : Nat} {R T : Int} {S : List Nat} {p : List Tms} {b : Tms} {L : CT} (h : EnOk D E M N Q R T S p b L) (i c : Nat) :
    ((putE i S p L c b).map (·.1)).Nodup ∧ (putE i S p L c b).length ≤ L.length + 1 ∧ ∀ e ∈ putE i S p L c b, e.2.length = p.length + 1 ∧ ∀ a ∈ e.2, NB (D * E) (Q + (M * N + M * E)) (R + T) a := by
  obtain ⟨_, l1, l2⟩ := ledE_ok h i c
  have r0 := h.ok.r0
  have t0 := h.ok.t0
  have lmQ : Lm (D * E) (Q + (M * N + M * E)) sizeLine := ⟨h.ok.lm.d0, h.ok.lm.d1, lt400 h.q4, Nat.le_refl _⟩
  have hold : ∀ e ∈ L, e.2.length = p.length + 1 ∧ ∀ a ∈ e.2, NB (D * E) (Q + (M * N + M * E)) (R + T) a := fun e he => ⟨(h.hL e he).1, fun a ha => ((h.hL e he).2 a ha).mono (by omega) (Int.le_refl _)⟩
  unfold putE
  split
  · exact ⟨h.nd, by omega, hold⟩
  · obtain ⟨_, k2, k3⟩ := putP_keys (ksrt (S ++ [c])) (match getP (ksrt (S ++ [c])) L with
      | some q => addP q (ledE i S p c b)
      | none => ledE i S p c b) L
    refine ⟨k2 h.nd, k3, fun e he => ?_⟩
    rcases putP_mem he with z | z
    · subst z
      cases hg : getP (ksrt (S ++ [c])) L with
      | none => exact ⟨l1, fun a ha => (l2 a ha).mono (by omega) (Int.le_refl _)⟩
      | some q =>
        obtain ⟨q1, q2⟩ := h.hL _ (getP_mem hg)
        refine ⟨by rw [addP_len (by rw [l1, q1]), q1], ?_⟩
        exact (added_run lmQ ⟨by omega, h.rt⟩ q2 l2 (by rw [q1]; have := h.hl; omega) (by rw [l1, q1])).2
    · exact hold e z
theorem put_run {D E M N Q : Nat} {R T : Int} {S : List Nat} {p : List Tms} {b : Tms} {L : CT} (h : EnOk D E M N Q R T S p b L) (i c : Nat) {a0 a1 a2 a4 : SV} (hc : c ≤ 1000) :
    ∃ x10 x11 x12 x13, fb_polynomial_of_1 (Sf a0 a1 a2 i a4 L S p c b .un .un .un .un) = some (.nx, Sf a0 a1 a2 i a4 (putE i S p L c b) S p c b x10 x11 x12 x13) := by
  have hin := gIn_K S c
  by_cases hm : c ∈ S
  · refine ⟨.un, .un, .un, .un, ?_⟩
    unfold fb_polynomial_of_1
    have : putE i S p L c b = L := by unfold putE; rw [if_pos hm]
    rw [this]
    simp [hin, hm]
  · have hbeh := behind_run (a0 := a0) (a1 := a1) (a2 := a2) (a4 := a4) (i := i) (L := L) (S := S) (p := p) (c := c) (b := b) h.hS
    obtain ⟨e1, l1, l2⟩ := ledE_ok h i c
    obtain ⟨e2, _⟩ := entry_run h.ok (by have := lt400 h.mn; omega) h.rt h.hp h.hb (by have := h.hl; omega) (c == i)
    have hterm := term_run (z := sgn S c) (by rcases sgn_pm S c with z | z <;> omega)
    have hsort := sort_run (S := S) (c := c) h.hS
    -- the five statements
    have st1 : gSet 10 (eCall (PD.g1 gLen) (aCons true (eLc [14] (iSeq (eVar 6)) (tgN 14) (bOf (eBin gGt true (eVar 14) (eVar 8))) ce_polynomial_of_1) aNil)) (Sf a0 a1 a2 i a4 L S p c b .un .un .un .un) =
        some (.nx, Sf a0 a1 a2 i a4 L S p c b (.v (.fz (.int ((S.filter fun x => decide (c < x)).length : Int)))) .un .un .un) := by
      simp [-x_eLc, hbeh, PD.g1, gLen]
    generalize hk : (S.filter fun x => decide (c < x)).length = k at *
    have hsg : sgn S c = 1 - 2 * ((k : Int) % 2) := by unfold sgn; rw [hk]
    have st2 : gSet 11 (oFr (eCall (gCallF m_term) (aCons true (eC (.int 0)) (aCons true (eCall gTup' (aCons true (eBin gSub true (eC (.int 1)) (eBin gMulX true (eC (.int 2)) (eBin gMod true (eVar 10) (eC (.int 2))))) (aCons true (eC (.int 1)) aNil))) aNil)))) (Sf a0 a1 a2 i a4 L S p c b (.v (.fz (.int (k : Int)))) .un .un .un) =
        some (.nx, Sf a0 a1 a2 i a4 L S p c b (.v (.fz (.int (k : Int)))) (.v (.fz (encN [(0, (sgn S c : Rat))]))) .un .un) := by
      have km : okMul 2 ((k : Int) % 2) = true := okMul_small (by decide) (by
        have : ((k : Int) % 2).natAbs ≤ 1 := by omega
        exact Nat.lt_of_le_of_lt this (by decide))
      generalize [((0 : Int), (sgn S c : Rat))] = sg at hterm ⊢
      rw [hsg] at hterm
      simp [gMod, gI, gMulX, km, gSub, gTup', x_size, gCallF, hterm]
    have he2 : ∀ o : OV, (o = (if (c == i) = true then OV.ol (((entP p b (c == i)).map encN).map OV.fz) else OV.fz (encP (entP p b (c == i))))) → o.erase = encP (entP p b (c == i)) := fun o ho => by
      rw [ho]
      split
      · exact erase_encPo _
      · simp
    have hci : ((c : Int) == (i : Int)) = (c == i) := by
      rw [Bool.eq_iff_iff]
      simp
      omega
    have st3 : gSet 12 (eCall (gCallF m_led_by_number) (aCons true (oFr (eCall (gCallF m_times_entry) (aCons true (eVar 7) (aCons true (eVar 9) (aCons true (eBin gEq true (eVar 8) (eVar 3)) aNil))))) (aCons true (eVar 11) aNil))) (Sf a0 a1 a2 i a4 L S p c b (.v (.fz (.int (k : Int)))) (.v (.fz (encN [(0, (sgn S c : Rat))]))) .un .un) =
        some (.nx, Sf a0 a1 a2 i a4 L S p c b (.v (.fz (.int (k : Int)))) (.v (.fz (encN [(0, (sgn S c : Rat))]))) (.v (encPo (ledE i S p c b))) .un) := by
      generalize [((0 : Int), (sgn S c : Rat))] = sg at e1 ⊢
      generalize hq : (if (c == i) = true then OV.ol (((entP p b (c == i)).map encN).map OV.fz) else OV.fz (encP (entP p b (c == i)))) = q at e2 he2
      have her := he2 q rfl
      simp [gEq, hci, gCallF, e2, her, e1]
    have st4 : gSet 13 (eCall (PD.g1 gTuple) (aCons true (eCall (PD.g1 gSortL) (aCons true (eCall gLst' (aStar (eVar 6) (aCons true (eVar 8) aNil))) aNil)) aNil)) (Sf a0 a1 a2 i a4 L S p c b (.v (.fz (.int (k : Int)))) (.v (.fz (encN [(0, (sgn S c : Rat))]))) (.v (encPo (ledE i S p c b))) .un) =
        some (.nx, Sf a0 a1 a2 i a4 L S p c b (.v (.fz (.int (k : Int)))) (.v (.fz (encN [(0, (sgn S c : Rat))]))) (.v (encPo (ledE i S p c b))) (.v (.fz (encK (ksrt (S ++ [c])))))) := by
      have hs : seqX (.fz (encK S)) = some (S.map fun (x : Nat) => PyData.int (x : Int)) := rfl
      have haf : ∀ xs : List PyData, allFz (xs.map OV.fz ++ [OV.fz (.int (c : Int))]) = some (xs ++ [PyData.int (c : Int)]) := fun xs => by
        have : xs.map OV.fz ++ [OV.fz (.int (c : Int))] = (xs ++ [PyData.int (c : Int)]).map OV.fz := by simp
        rw [this, allFz_fz]
      have hlen : S.length ≤ 16777215 := by have := h.hS; omega
      have hs2 : seqX (.ol (((ksrt (S ++ [c])).map fun (x : Nat) => PyData.int (x : Int)).map OV.fz)) = some ((ksrt (S ++ [c])).map fun (x : Nat) => PyData.int (x : Int)) := allFz_fz _
      simp [hs, gLst', haf, x_size, hlen, PD.g1, -List.map_map, hsort, gTuple, hs2]
      rfl
    have st5 : gDPut 5 (eIf (bOf (eBin (gDIn false) true (eVar 13) (eVar 5))) (eCall (gCallN m_added) (aCons true (eDGetX true (eVar 5) (eVar 13)) (aCons true (eVar 12) aNil))) (eTake 12)) (eVar 13) (Sf a0 a1 a2 i a4 L S p c b (.v (.fz (.int (k : Int)))) (.v (.fz (encN [(0, (sgn S c : Rat))]))) (.v (encPo (ledE i S p c b))) (.v (.fz (encK (ksrt (S ++ [c])))))) =
        some (.nx, Sf a0 a1 a2 i a4 (putE i S p L c b) S p c b (.v (.fz (.int (k : Int)))) (.v (.fz (encN [(0, (sgn S c : Rat))]))) (if (getP (ksrt (S ++ [c])) L).isSome then .v (encPo (ledE i S p c b)) else .un) (.v (.fz (encK (ksrt (S ++ [c])))))) := by
      have hll : L.length < sizeLine := by rw [x_size]; have := h.ll; omega
      have hdg := dg_CT (ksrt (S ++ [c])) L
      have hdc : ∀ x : SS, isDc 5 (a0 :: a1 :: a2 :: .v (.fz (.int (i : Int))) :: a4 :: .v (encCT L) :: x) = true := fun x => rfl
      cases hg : getP (ksrt (S ++ [c])) L with
      | none =>
        rw [hg] at hdg
        have hput := putD_CT (S := ksrt (S ++ [c])) (p := ledE i S p c b) h.nd hll
        have hE : putE i S p L c b = putP (ksrt (S ++ [c])) (ledE i S p c b) L := by unfold putE; rw [if_neg hm, hg]
        rw [hE]
        simp only [Option.map_none] at hdg
        simp [gDIn, hdg, hdc, getS, SV.ov, hput, modS, SV.put]
      | some q =>
        rw [hg] at hdg
        simp only [Option.map_some] at hdg
        obtain ⟨q1, q2⟩ := h.hL _ (getP_mem hg)
        have lmQ : Lm (D * E) (Q + (M * N + M * E)) sizeLine := ⟨h.ok.lm.d0, h.ok.lm.d1, lt400 h.q4, Nat.le_refl _⟩
        obtain ⟨e5, _⟩ := added_run lmQ ⟨by have := h.ok.r0; have := h.ok.t0; omega, h.rt⟩ q2 l2 (by rw [q1]; have := h.hl; omega) (by rw [l1, q1])
        have hput := putD_CT (S := ksrt (S ++ [c])) (p := addP q (ledE i S p c b)) h.nd hll
        have hE : putE i S p L c b = putP (ksrt (S ++ [c])) (addP q (ledE i S p c b)) L := by unfold putE; rw [if_neg hm, hg]
        rw [hE]
        have hcn : gCallN m_added [encPo q, encPo (ledE i S p c b)] = some (encPo (addP q (ledE i S p c b))) := by
          unfold gCallN
          have : (OV.eraseL [encPo q, encPo (ledE i S p c b)]).map OV.fz = [.fz (encP q), .fz (encP (ledE i S p c b))] := by simp [OV.eraseL, erase_encPo]
          rw [this, e5]
          simp only
          exact if_pos (stillO_encPo (addP q (ledE i S p c b)))
        simp [gDIn, hdg, hcn, hdc, getS, SV.ov, hput, modS, SV.put]
    refine ⟨.v (.fz (.int (k : Int))), .v (.fz (encN [(0, (sgn S c : Rat))])), (if (getP (ksrt (S ++ [c])) L).isSome then .v (encPo (ledE i S p c b)) else .un), .v (.fz (encK (ksrt (S ++ [c])))), ?_⟩
    unfold fb_polynomial_of_1
    rw [x_gIf]
    have ht : bOf (eBin (gIn true) true (eVar 8) (eVar 6)) (Sf a0 a1 a2 i a4 L S p c b .un .un .un .un) = some (true, Sf a0 a1 a2 i a4 L S p c b .un .un .un .un) := by simp [hin, hm]
    rw [ht]
    simp only [x_gSeq, st1, st2, st3, st4, st5]
end PD
set_option Elab.async false
set_option linter.all false
set_option maxRecDepth 100000
set_option maxHeartbeats 4000000
set_option exponentiation.threshold 5000
namespace PD
open PySem L2 PD.G
/-- what stays for a pair (columns, polynomial) -/
structure PrOk (D E M N : Nat) (R T : Int) (S : List Nat) (p : List Tms) : Prop where
  ok : MulOk D E M N R T
  de : D * E < 2 ^ 200
  mn : M * N + M * E < 2 ^ 200
  rt : R + T ≤ 1000
  hp : ∀ a ∈ p, NB D M R a
  hl : p.length ≤ 40
  hS : S.length ≤ 100
/-- what stays for the table that grows -/
structure TbOk (F Q : Nat) (U : Int) (len : Nat) (L : CT) : Prop where
  nd : (L.map (·.1)).Nodup
  hL : ∀ e ∈ L, e.2.length = len ∧ ∀ a ∈ e.2, NB F Q U a
theorem TbOk.nil {F Q : Nat} {U : Int} {len : Nat} : TbOk F Q U len [] := ⟨by simp, fun e he => nomatch he⟩
def colsE (i : Nat) (S : List Nat) (p : List Tms) : List (Tms × Nat) → CT → CT
  | [], L => L
  | x :: xs, L => colsE i S p xs (putE i S p L x.2 x.1)
abbrev Sg (a0 a1 a2 : SV) (i : Nat) (a4 : SV) (L : CT) (S : List Nat) (p : List Tms) : SS :=
  [a0, a1, a2, .v (.fz (.int (i : Int))), a4, .v (encCT L), .v (.fz (encK S)), .v (.fz (encP p)), .un, .un, .un, .un, .un, .un, .un]
theorem cols_run {D E M N : Nat} {R T : Int} {S : List Nat} {p : List Tms} (h : PrOk D E M N R T S p) (i : Nat) {a0 a1 a2 a4 : SV} (xs : List (Tms × Nat)) : ∀ (L : CT) (Q : Nat), (∀ x ∈ xs, NB E N T x.1 ∧ x.2 ≤ 1000) → TbOk (D * E) Q (R + T) (p.length + 1) L → Q + xs.length * (M * N + M * E) < 2 ^ 200 → L.length + xs.length ≤ 10000 →
    forL [8, 9, 10, 11, 12, 13] fg_polynomial_of_1 fb_polynomial_of_1 (xs.map fun x => PyData.tuple [.int (x.2 : Int), encN x.1]) (Sg a0 a1 a2 i a4 L S p) = some (.nx, Sg a0 a1 a2 i a4 (colsE i S p xs L) S p) ∧
      TbOk (D * E) (Q + xs.length * (M * N + M * E)) (R + T) (p.length + 1) (colsE i S p xs L) ∧ (colsE i S p xs L).length ≤ L.length + xs.length := by
  induction xs with
  | nil => intro L Q _ hL _ _; exact ⟨rfl, by simpa [colsE] using hL, by simp [colsE]⟩
  | cons x xs ih =>
    intro L Q hx hL hQ hl
    rw [List.length_cons, Nat.succ_mul] at hQ
    rw [List.length_cons] at hl
    obtain ⟨x1, x2⟩ := hx x List.mem_cons_self
    have en : EnOk D E M N Q R T S p x.1 L := ⟨h.ok, h.de, h.mn, h.rt, by omega, h.hp, x1, h.hl, h.hS, hL.nd, by omega, hL.hL⟩
    obtain ⟨k1, k2, k3⟩ := putE_ok en i x.2
    obtain ⟨x10, x11, x12, x13, hb⟩ := put_run en i x.2 (a0 := a0) (a1 := a1) (a2 := a2) (a4 := a4) x2
    obtain ⟨e, t1, t2⟩ := ih (putE i S p L x.2 x.1) (Q + (M * N + M * E)) (fun y hy => hx y (List.mem_cons_of_mem _ hy)) ⟨k1, k3⟩ (by omega) (by omega)
    have hg : fg_polynomial_of_1 (.tuple [.int (x.2 : Int), encN x.1]) (Sg a0 a1 a2 i a4 L S p) = some (Sf a0 a1 a2 i a4 L S p x.2 x.1 .un .un .un .un) := by simp [fg_polynomial_of_1]
    refine ⟨?_, ?_, ?_⟩
    · rw [List.map_cons, forL_cons hg hb]
      exact e
    · have : Q + (M * N + M * E) + xs.length * (M * N + M * E) = Q + (x :: xs).length * (M * N + M * E) := by rw [List.length_cons, Nat.succ_mul]; omega
      rw [← this]
      exact t1
    · simp only [colsE, List.length_cons]
      omega
/-- a row of the matrix, by its place -/
def rowE (i : Nat) (row : List Tms) : CT → CT → CT
  | [], L => L
  | e :: D, L => rowE i row D (colsE i e.1 e.2 row.zipIdx L)
theorem zipIdx_enc (row : List Tms) : enumD (row.map encN) = row.zipIdx.map fun x => PyData.tuple [.int (x.2 : Int), encN x.1] := by
  rw [enumD_eq, List.zipIdx_map, List.map_map]
  rfl
abbrev Sh (a0 a1 a2 : SV) (i : Nat) (row : List Tms) (L : CT) : SS :=
  [a0, a1, a2, .v (.fz (.int (i : Int))), .v (.fz (.list (row.map encN))), .v (encCT L), .un, .un, .un, .un, .un, .un, .un, .un, .un]
theorem items_run {D E M N : Nat} {R T : Int} (i : Nat) {row : List Tms} (hrow : ∀ a ∈ row, NB E N T a) (hr : row.length ≤ 10) {len : Nat} {a0 a1 a2 : SV} (es : CT) : ∀ (L : CT) (Q : Nat), (∀ e ∈ es, PrOk D E M N R T e.1 e.2 ∧ e.2.length = len) → TbOk (D * E) Q (R + T) (len + 1) L → Q + es.length * (row.length * (M * N + M * E)) < 2 ^ 200 → L.length + es.length * row.length ≤ 10000 →
    forL [6, 7, 8, 9, 10, 11, 12, 13] fg_polynomial_of_2 fb_polynomial_of_2 (es.map fun e => PyData.tuple [encK e.1, encP e.2]) (Sh a0 a1 a2 i row L) = some (.nx, Sh a0 a1 a2 i row (rowE i row es L)) ∧
      TbOk (D * E) (Q + es.length * (row.length * (M * N + M * E))) (R + T) (len + 1) (rowE i row es L) ∧ (rowE i row es L).length ≤ L.length + es.length * row.length := by
  induction es with
  | nil => intro L Q _ hL _ _; exact ⟨rfl, by simpa [rowE] using hL, by simp [rowE]⟩
  | cons e es ih =>
    intro L Q he hL hQ hl
    rw [List.length_cons, Nat.succ_mul] at hQ hl
    obtain ⟨h1, h2⟩ := he e List.mem_cons_self
    have hz : row.zipIdx.length = row.length := List.length_zipIdx
    obtain ⟨c1, c2, c3⟩ := cols_run h1 i (a0 := a0) (a1 := a1) (a2 := a2) (a4 := .v (.fz (.list (row.map encN)))) row.zipIdx L Q (fun x hx => by
      have := List.mem_zipIdx hx
      refine ⟨hrow _ ?_, ?_⟩
      · have hm := List.fst_mem_of_mem_zipIdx hx
        exact hm
      · have := this.2.1
        omega) (by rw [h2]; exact hL) (by rw [hz]; omega) (by rw [hz]; omega)
    rw [hz] at c2 c3
    rw [h2] at c2
    obtain ⟨t0, t1, t2⟩ := ih (colsE i e.1 e.2 row.zipIdx L) (Q + row.length * (M * N + M * E)) (fun y hy => he y (List.mem_cons_of_mem _ hy)) c2 (by omega) (by omega)
    have hg : fg_polynomial_of_2 (.tuple [encK e.1, encP e.2]) (Sh a0 a1 a2 i row L) = some (Sg a0 a1 a2 i (.v (.fz (.list (row.map encN)))) L e.1 e.2) := by simp [fg_polynomial_of_2]
    have hb : fb_polynomial_of_2 (Sg a0 a1 a2 i (.v (.fz (.list (row.map encN)))) L e.1 e.2) = some (.nx, Sg a0 a1 a2 i (.v (.fz (.list (row.map encN)))) (colsE i e.1 e.2 row.zipIdx L) e.1 e.2) := by
      have hi : iEnum' (eVar 4) (Sg a0 a1 a2 i (.v (.fz (.list (row.map encN)))) L e.1 e.2) = some (row.zipIdx.map fun x => PyData.tuple [.int (x.2 : Int), encN x.1], Sg a0 a1 a2 i (.v (.fz (.list (row.map encN)))) L e.1 e.2) := by
        simp [seqD, zipIdx_enc]
      unfold fb_polynomial_of_2
      exact gFor_of hi c1
    refine ⟨?_, ?_, ?_⟩
    · rw [List.map_cons, forL_cons hg hb]
      exact t0
    · have : Q + row.length * (M * N + M * E) + es.length * (row.length * (M * N + M * E)) = Q + (e :: es).length * (row.length * (M * N + M * E)) := by rw [List.length_cons, Nat.succ_mul]; omega
      rw [← this]
      exact t1
    · simp only [rowE, List.length_cons, Nat.succ_mul]
      omega
end PD
set_option Elab.async false
set_option linter.all false
set_option maxRecDepth 100000
set_option maxHeartbeats 4000000
set_option exponentiation.threshold 5000
namespace PD
open PySem L2 PD.G
def Mb : Nat → Nat
  | 0 => 1
  | i + 1 => 4 ^ i * (4 * (Mb i * 65536 + Mb i * 30))
/-- the numbers at the row i -/
structure RwOk (i : Nat) (D : CT) : Prop where
  tb : TbOk (30 ^ i) (Mb i) (200 * i) (i + 1) D
  ln : D.length ≤ 4 ^ i
  ks : ∀ e ∈ D, e.1.length = i
theorem ksrt_length (l : List Nat) : (ksrt l).length = l.length := List.length_mergeSort _
theorem putE_ks {i k : Nat} {S : List Nat} {p : List Tms} {L : CT} {c : Nat} {b : Tms} (hS : S.length = k) (h : ∀ e ∈ L, e.1.length = k + 1) : ∀ e ∈ putE i S p L c b, e.1.length = k + 1 := by
  unfold putE
  split
  · exact h
  · intro e he
    rcases putP_mem he with z | z
    · rw [z]; simp [ksrt_length, hS]
    · exact h e z
theorem colsE_ks {i k : Nat} {S : List Nat} {p : List Tms} (hS : S.length = k) : ∀ (xs : List (Tms × Nat)) {L : CT}, (∀ e ∈ L, e.1.length = k + 1) → ∀ e ∈ colsE i S p xs L, e.1.length = k + 1
  | [], L, h => h
  | x :: xs, L, h => colsE_ks hS xs (putE_ks hS h)
theorem rowE_ks {i k : Nat} {row : List Tms} : ∀ (es : CT) {L : CT}, (∀ e ∈ es, e.1.length = k) → (∀ e ∈ L, e.1.length = k + 1) → ∀ e ∈ rowE i row es L, e.1.length = k + 1
  | [], L, _, h => h
  | e :: es, L, hs, h => rowE_ks es (fun y hy => hs y (List.mem_cons_of_mem _ hy)) (colsE_ks (hs e List.mem_cons_self) _ h)
theorem nums (i : Nat) (hi : i ≤ 3) : 30 ^ i < 2 ^ 190 ∧ Mb i < 2 ^ 150 ∧ 4 ^ i ≤ 64 ∧ 4 ^ i * (4 * (Mb i * 65536 + Mb i * 30)) < 2 ^ 150 := by
  have : i = 0 ∨ i = 1 ∨ i = 2 ∨ i = 3 := by omega
  rcases this with rfl | rfl | rfl | rfl <;> decide
theorem items_enc (D : CT) : itemsOf (encCT D).erase = D.map fun e => PyData.tuple [encK e.1, encP e.2] := by
  unfold encCT
  simp only [OV.erase, itemsOf]
  rw [eraseL_map, List.map_map, List.map_map, List.zip_map', List.map_map]
  apply List.map_congr_left
  intro e _
  simp only [Function.comp, erase_encPo]
  have : kT (kk e.1) = encK e.1 := by
    unfold encK kT kk
    rw [List.map_map]
    rfl
  rw [this]
theorem row_step {i : Nat} (hi : i ≤ 3) {D : CT} (h : RwOk i D) {row : List Tms} (hrow : ∀ a ∈ row, NB 30 65536 200 a) (hr : row.length ≤ 4) {a0 a1 : SV} :
    RwOk (i + 1) (rowE i row D []) ∧ forL [6, 7, 8, 9, 10, 11, 12, 13] fg_polynomial_of_2 fb_polynomial_of_2 (D.map fun e => PyData.tuple [encK e.1, encP e.2]) (Sh a0 a1 (.v (.fz (encCT D).erase)) i row []) = some (.nx, Sh a0 a1 (.v (.fz (encCT D).erase)) i row (rowE i row D [])) := by
  obtain ⟨n1, n2, n3, n4⟩ := nums i hi
  have p200 : (2 : Nat) ^ 190 < 2 ^ 200 := by decide
  have p150 : (2 : Nat) ^ 150 < 2 ^ 200 := by decide
  have hm : Mb i * 65536 + Mb i * 30 < 2 ^ 200 := by
    have : Mb i * 65536 + Mb i * 30 < 2 ^ 150 * 65566 := by omega
    exact Nat.lt_trans this (by decide)
  have hd : 30 ^ i * 30 < 2 ^ 200 := by
    have : 30 ^ i * 30 < 2 ^ 190 * 30 := by omega
    exact Nat.lt_trans this (by decide)
  have hpos : 0 < 30 ^ i := Nat.pow_pos (by decide)
  have hle : D.length * (row.length * (Mb i * 65536 + Mb i * 30)) ≤ 4 ^ i * (4 * (Mb i * 65536 + Mb i * 30)) := Nat.mul_le_mul h.ln (Nat.mul_le_mul_right _ hr)
  have hll : D.length * row.length ≤ 4 ^ i * 4 := Nat.mul_le_mul h.ln hr
  obtain ⟨e, t1, t2⟩ := items_run (D := 30 ^ i) (E := 30) (M := Mb i) (N := 65536) (R := 200 * i) (T := 200) i hrow (by omega) (len := i + 1) (a0 := a0) (a1 := a1) (a2 := .v (.fz (encCT D).erase)) D [] 0 (fun x hx => by
    obtain ⟨h1, h2⟩ := h.tb.hL x hx
    refine ⟨⟨⟨hpos, by decide, by omega, by decide, by omega, by decide, by omega, by decide, by omega, by decide⟩, hd, hm, by omega, h2, by omega, by rw [h.ks x hx]; omega⟩, h1⟩) TbOk.nil (by omega) (by simp; omega)
  refine ⟨⟨?_, ?_, rowE_ks D h.ks (fun e he => nomatch he)⟩, e⟩
  · refine ⟨t1.nd, fun x hx => ?_⟩
    obtain ⟨h1, h2⟩ := t1.hL x hx
    refine ⟨h1, fun a ha => ?_⟩
    have := h2 a ha
    rw [show 30 ^ (i + 1) = 30 ^ i * 30 from rfl]
    refine this.mono ?_ (by push_cast; omega)
    show _ ≤ 4 ^ i * (4 * (Mb i * 65536 + Mb i * 30))
    omega
  · rw [show 4 ^ (i + 1) = 4 ^ i * 4 from rfl]
    simp at t2
    omega
/-- the rows, from the i-th on -/
def rowsE : Nat → List (List Tms) → CT → CT
  | _, [], D => D
  | i, row :: rows, D => rowsE (i + 1) rows (rowE i row D [])
abbrev Si (a0 a1 : SV) (D : CT) : SS := [a0, a1, .v (encCT D), .un, .un, .un, .un, .un, .un, .un, .un, .un, .un, .un, .un]
theorem row_body {i : Nat} (hi : i ≤ 3) {D : CT} (h : RwOk i D) {row : List Tms} (hrow : ∀ a ∈ row, NB 30 65536 200 a) (hr : row.length ≤ 4) {a0 a1 : SV} :
    fb_polynomial_of_3 [a0, a1, .v (encCT D), .v (.fz (.int (i : Int))), .v (.fz (.list (row.map encN))), .un, .un, .un, .un, .un, .un, .un, .un, .un, .un] =
      some (.nx, [a0, a1, .v (encCT (rowE i row D [])), .v (.fz (.int (i : Int))), .v (.fz (.list (row.map encN))), .un, .un, .un, .un, .un, .un, .un, .un, .un, .un]) := by
  obtain ⟨_, e⟩ := row_step hi h hrow hr (a0 := a0) (a1 := a1)
  have s1 : gSet 5 eNewT [a0, a1, .v (encCT D), .v (.fz (.int (i : Int))), .v (.fz (.list (row.map encN))), .un, .un, .un, .un, .un, .un, .un, .un, .un, .un] =
      some (.nx, [a0, a1, .v (encCT D), .v (.fz (.int (i : Int))), .v (.fz (.list (row.map encN))), .v (encCT []), .un, .un, .un, .un, .un, .un, .un, .un, .un]) := by
    simp [encCT]
  have hi2 : iItM 2 [a0, a1, .v (encCT D), .v (.fz (.int (i : Int))), .v (.fz (.list (row.map encN))), .v (encCT []), .un, .un, .un, .un, .un, .un, .un, .un, .un] =
      some (D.map fun e => PyData.tuple [encK e.1, encP e.2], Sh a0 a1 (.v (.fz (encCT D).erase)) i row []) := by
    rw [← items_enc]
    rfl
  have s2 := gFor_of (is := [6, 7, 8, 9, 10, 11, 12, 13]) (gv := fg_polynomial_of_2) (g := fb_polynomial_of_2) hi2 e
  have s3 : gMove 2 5 (Sh a0 a1 (.v (.fz (encCT D).erase)) i row (rowE i row D [])) = some (.nx, [a0, a1, .v (encCT (rowE i row D [])), .v (.fz (.int (i : Int))), .v (.fz (.list (row.map encN))), .un, .un, .un, .un, .un, .un, .un, .un, .un, .un]) := rfl
  unfold fb_polynomial_of_3
  rw [x_gSeq, s1]
  simp only
  rw [x_gSeq, s2]
  simp only
  exact s3
theorem rows_run {a0 a1 : SV} (rows : List (List Tms)) : ∀ (i : Nat) (D : CT), i + rows.length ≤ 4 → RwOk i D → (∀ row ∈ rows, row.length ≤ 4 ∧ ∀ a ∈ row, NB 30 65536 200 a) →
    forL [3, 4, 5, 6, 7, 8, 9, 10, 11, 12, 13] fg_polynomial_of_3 fb_polynomial_of_3 ((rows.zipIdx i).map fun x => PyData.tuple [.int (x.2 : Int), .list (x.1.map encN)]) (Si a0 a1 D) = some (.nx, Si a0 a1 (rowsE i rows D)) ∧ RwOk (i + rows.length) (rowsE i rows D) := by
  induction rows with
  | nil => intro i D _ h _; exact ⟨rfl, h⟩
  | cons row rows ih =>
    intro i D hi h hr
    rw [List.length_cons] at hi
    obtain ⟨r1, r2⟩ := hr row List.mem_cons_self
    have hb := row_body (by omega) h r2 r1 (a0 := a0) (a1 := a1)
    obtain ⟨k, _⟩ := row_step (by omega) h r2 r1 (a0 := a0) (a1 := a1)
    obtain ⟨e, q⟩ := ih (i + 1) (rowE i row D []) (by omega) k fun x hx => hr x (List.mem_cons_of_mem _ hx)
    have hg : fg_polynomial_of_3 (.tuple [.int (i : Int), .list (row.map encN)]) (Si a0 a1 D) = some [a0, a1, .v (encCT D), .v (.fz (.int (i : Int))), .v (.fz (.list (row.map encN))), .un, .un, .un, .un, .un, .un, .un, .un, .un, .un] := by simp [fg_polynomial_of_3]
    refine ⟨?_, ?_⟩
    · rw [List.zipIdx_cons, List.map_cons, forL_cons hg hb]
      exact e
    · rw [List.length_cons, show i + (rows.length + 1) = i + 1 + rows.length by omega]
      exact q
/-- polynomial_of's table behind all rows -/
def polyD (m : List (List Tms)) : CT := rowsE 0 m [([], [[(0, (1 : Rat))]])]
end PD
set_option Elab.async false
set_option linter.all false
set_option maxRecDepth 100000
set_option maxHeartbeats 4000000
set_option exponentiation.threshold 5000
namespace PD
open PySem L2 PD.G
theorem start_ok : RwOk 0 [([], [[(0, (1 : Rat))]])] := by
  refine ⟨⟨by simp, fun e he => ?_⟩, by simp, fun e he => ?_⟩
  · have : e = ([], [[(0, (1 : Rat))]]) := by simpa using he
    subst this
    refine ⟨rfl, fun a ha => ?_⟩
    have : a = [(0, (1 : Rat))] := by simpa using ha
    subst this
    have := pm1_nb (z := 1) (.inl rfl) (R := 0) (Int.le_refl _)
    have h2 : NB 1 1 0 [(0, (1 : Rat))] := by simpa using this
    exact h2
  · have : e = ([], [[(0, (1 : Rat))]]) := by simpa using he
    subst this
    rfl
/-- a square table with its telling -/
structure SqOk (n : Nat) (rows : List Row) (tl : Tell) : Prop where
  n4 : n ≤ 4
  sq : rows.length = n
  tn : tl.length = n
  ok : ∀ x ∈ rows.zip tl, RowOk 30 7000 200 x.1 x.2
theorem sumOk : SumOk 30 7000 200 := ⟨by decide, by decide, by decide, by decide, by decide⟩
theorem matN_len {n : Nat} {rows : List Row} {tl : Tell} (h : SqOk n rows tl) : (matN n rows tl).length = n := by
  have := h.sq
  have := h.tn
  simp [matN]
  omega
theorem matN_nb {n : Nat} {rows : List Row} {tl : Tell} (h : SqOk n rows tl) : ∀ row ∈ matN n rows tl, row.length ≤ 4 ∧ ∀ a ∈ row, NB 30 65536 200 a := fun row hr => by
  obtain ⟨h1, h2⟩ := mat_nb sumOk h.ok row hr
  exact ⟨by rw [h1]; exact h.n4, fun a ha => (h2 a ha).mono (by decide) (Int.le_refl _)⟩
theorem polynomial_run {n : Nat} {rows : List Row} {tl : Tell} (h : SqOk n rows tl) {q : List Tms} (hq : getP (List.range n) (polyD (matN n rows tl)) = some q) :
    m_polynomial_of [.fz (encTab n rows), .fz (encTl tl)] = some (encPo q, [.fz (encTab n rows), .fz (encTl tl)]) := by
  have hm := matrix_run sumOk (n := n) (by have := h.n4; omega) h.ok (by rw [h.sq]; have := h.n4; omega)
  have hnb := matN_nb h
  have hln := matN_len h
  have hsq := h.sq
  have hn4 := h.n4
  generalize hM : matN n rows tl = m at *
  obtain ⟨e, _⟩ := rows_run (a0 := .v (.fz (encTab n rows))) (a1 := .v (.fz (encTl tl))) m 0 [([], [[(0, (1 : Rat))]])] (by omega) start_ok hnb
  have her : (OV.ol ((m.map fun r => PyData.list (r.map encN)).map OV.fz)).erase = .list (m.map fun r => PyData.list (r.map encN)) := erase_fzs _
  have hen : enumD (m.map fun r => PyData.list (r.map encN)) = (m.zipIdx 0).map fun x => PyData.tuple [.int (x.2 : Int), .list (x.1.map encN)] := by
    rw [enumD_eq, List.zipIdx_map, List.map_map]
    rfl
  have s1 : gSet 2 (eDisp1T (eCall gTup' aNil) (eCall gLst' (aCons true (oFr (eCall (gCallF m_term) (aCons true (eC (.int 0)) (aCons true (eCall gTup' (aCons true (eC (.int 1)) (aCons true (eC (.int 1)) aNil))) aNil)))) aNil))) [.v (.fz (encTab n rows)), .v (.fz (encTl tl)), .un, .un, .un, .un, .un, .un, .un, .un, .un, .un, .un, .un, .un] =
      some (.nx, Si (.v (.fz (encTab n rows))) (.v (.fz (encTl tl))) [([], [[(0, (1 : Rat))]])]) := by
    have ht := term_run (z := 1) (by decide)
    have : (((1 : Int) : Rat)) = 1 := rfl
    rw [this] at ht
    simp [gTup', gLst', x_size, gCallF, ht, tkOf, keysOf]
    rfl
  have hi : iEnum' (oFr (eCall (gCallF m_matrix_of) (aCons true (eVar 0) (aCons true (eVar 1) aNil)))) (Si (.v (.fz (encTab n rows))) (.v (.fz (encTl tl))) [([], [[(0, (1 : Rat))]])]) =
      some ((m.zipIdx 0).map fun x => PyData.tuple [.int (x.2 : Int), .list (x.1.map encN)], Si (.v (.fz (encTab n rows))) (.v (.fz (encTl tl))) [([], [[(0, (1 : Rat))]])]) := by
    simp [gCallF, hm, -x_erase_ol, her, seqD, hen, -List.map_map]
  have s2 := gFor_of (is := [3, 4, 5, 6, 7, 8, 9, 10, 11, 12, 13]) (gv := fg_polynomial_of_3) (g := fb_polynomial_of_3) hi e
  have s3 : gRetD 2 (gTR (eBin gIx true (eVar 0) (eC (.int 0)))) (Si (.v (.fz (encTab n rows))) (.v (.fz (encTl tl))) (polyD m)) = some (.rt (encPo q), [.v (.fz (encTab n rows)), .v (.fz (encTl tl)), .un, .un, .un, .un, .un, .un, .un, .un, .un, .un, .un, .un, .un]) := by
    have hok : okR (n : Int) = true := decide_eq_true ⟨by omega, by omega⟩
    have hr : PyData.tuple (rangeD 0 n) = encK (List.range n) := by rw [rangeD0]; rfl
    have hn2 : n ≤ 16777216 := by omega
    have hgt : gTR (eBin gIx true (eVar 0) (eC (.int 0))) (Si (.v (.fz (encTab n rows))) (.v (.fz (encTl tl))) (polyD m)) = some (.fz (encK (List.range n)), Si (.v (.fz (encTab n rows))) (.v (.fz (encTl tl))) (polyD m)) := by
      rw [← hr]
      simp [encTab, gIx, atI, ixN, hok, hn2]
    have hlk := look_CT (List.range n) (polyD m)
    rw [hq] at hlk
    unfold gRetD
    have hv : hasV 2 (Si (.v (.fz (encTab n rows))) (.v (.fz (encTl tl))) (polyD m)) = true := rfl
    rw [if_pos hv, hgt]
    have h2 : (Si (.v (.fz (encTab n rows))) (.v (.fz (encTl tl))) (polyD m))[2]? = some (.v (.ot ((polyD m).map fun e => kk e.1) ((polyD m).map fun e => encPo e.2))) := rfl
    simp only [h2, tk_encK, hlk, Option.map_some]
    rfl
  have s0 : gIf (bOf (eBin gNe true (eCall (g1 gLen) (aCons true (eBin gIx true (eVar 0) (eC (.int 1))) aNil)) (eBin gIx true (eVar 0) (eC (.int 0))))) gNo gNx [.v (.fz (encTab n rows)), .v (.fz (encTl tl)), .un, .un, .un, .un, .un, .un, .un, .un, .un, .un, .un, .un, .un] =
      some (.nx, [.v (.fz (encTab n rows)), .v (.fz (encTl tl)), .un, .un, .un, .un, .un, .un, .un, .un, .un, .un, .un, .un, .un]) := by
    simp [encTab, gIx, atI, ixN, g1, gLen, gNe, hsq]
  have hb : mb_polynomial_of [.v (.fz (encTab n rows)), .v (.fz (encTl tl)), .un, .un, .un, .un, .un, .un, .un, .un, .un, .un, .un, .un, .un] = some (.rt (encPo q), [.v (.fz (encTab n rows)), .v (.fz (encTl tl)), .un, .un, .un, .un, .un, .un, .un, .un, .un, .un, .un, .un, .un]) := by
    unfold mb_polynomial_of
    rw [x_gSeq, s0]
    simp only
    rw [x_gSeq, s1]
    simp only
    rw [x_gSeq, s2]
    simp only
    exact s3
  unfold m_polynomial_of
  rw [x_fnM]
  simp [hb]
end PD
set_option Elab.async false
set_option linter.all false
set_option maxRecDepth 100000
set_option maxHeartbeats 4000000
set_option exponentiation.threshold 5000
namespace PD
open PySem L2 PD.G
/-! ### the law's own greatest divisor, fraction -/
theorem gd_loop : ∀ (b a : Nat), a < 2 ^ 900 → b < 2 ^ 900 → ∃ k, whileN [] (bOf (eBin gGt true (eVar 1) (eC (.int 0)))) fb__law_greatest_divisor_1 k [.v (.fz (.int (a : Int))), .v (.fz (.int (b : Int)))] = some (.nx, [.v (.fz (.int ((Nat.gcd a b : Nat) : Int))), .v (.fz (.int 0))]) := by
  intro b
  induction b using Nat.strongRecOn with
  | ind b ih =>
    intro a ha hb
    by_cases h0 : b = 0
    · subst h0
      refine ⟨1, ?_⟩
      simp [whileN, gGt, gI]
    · have hpos : 0 < b := by omega
      obtain ⟨k, e⟩ := ih (a % b) (Nat.mod_lt _ hpos) b hb (Nat.lt_trans (Nat.mod_lt _ hpos) hb)
      refine ⟨k + 1, ?_⟩
      have ht : bOf (eBin gGt true (eVar 1) (eC (.int 0))) [.v (.fz (.int (a : Int))), .v (.fz (.int (b : Int)))] = some (true, [.v (.fz (.int (a : Int))), .v (.fz (.int (b : Int)))]) := by
        simp [gGt, gI, hpos]
      have k1 : okDiv (a : Int) (b : Int) = true := okDiv_small (by omega) (by
        rw [Int.natAbs_natCast]
        exact Nat.lt_trans hb (Nat.pow_lt_pow_right (by decide) (by decide)))
      have hq : ((a : Int) / (b : Int)) = ((a / b : Nat) : Int) := by rw [Int.natCast_ediv]
      have k2 : okMul ((a : Int) / (b : Int)) (b : Int) = true := okMul_small (by
        rw [hq, Int.natAbs_natCast]
        exact Nat.lt_of_le_of_lt (Nat.div_le_self a b) (Nat.lt_trans ha (Nat.pow_lt_pow_right (by decide) (by decide)))) (by
        rw [Int.natAbs_natCast]
        exact Nat.lt_trans hb (Nat.pow_lt_pow_right (by decide) (by decide)))
      have hm : (a : Int) - (a : Int) / (b : Int) * (b : Int) = ((a % b : Nat) : Int) := by
        rw [Int.natCast_emod, Int.emod_def, Int.mul_comm]
      have hg : fb__law_greatest_divisor_1 [.v (.fz (.int (a : Int))), .v (.fz (.int (b : Int)))] = some (.nx, [.v (.fz (.int (b : Int))), .v (.fz (.int ((a % b : Nat) : Int)))]) := by
        rw [← hm]
        simp [fb__law_greatest_divisor_1, gDiv, gI, gMulX, gSub, k1, k2]
      rw [whileN, ht]
      simp only [hg]
      rw [Nat.gcd_comm a b, Nat.gcd_rec b a] 
      have e' : whileN [] (bOf (eBin gGt true (eVar 1) (eC (.int 0)))) fb__law_greatest_divisor_1 k (wipeS [] [.v (.fz (.int (b : Int))), .v (.fz (.int ((a % b : Nat) : Int)))]) = some (.nx, [.v (.fz (.int ((Nat.gcd b (a % b) : Nat) : Int))), .v (.fz (.int 0))]) := e
      rw [Nat.gcd_comm (a % b) b]
      exact e'
theorem gd_run {a b : Nat} (ha : a < 2 ^ 900) (hb : b < 2 ^ 900) : m__law_greatest_divisor [.fz (.int (a : Int)), .fz (.int (b : Int))] = some (.fz (.int ((Nat.gcd a b : Nat) : Int)), [.fz (.int (a : Int)), .fz (.int (b : Int))]) := by
  obtain ⟨k, e⟩ := gd_loop b a ha hb
  have hw := gWhile_of (is := []) (S := [.v (.fz (.int (a : Int))), .v (.fz (.int (b : Int)))]) (k := k) e
  unfold m__law_greatest_divisor mb__law_greatest_divisor
  rw [x_fnM]
  simp [hw]
theorem fraction_run {n d : Int} (hd : 0 < d) (hn2 : n.natAbs < 2 ^ 900) (hb : d.natAbs < 2 ^ 900) : m__law_fraction [.fz (.int n), .fz (.int d)] = some (.fz (encR (mkRat n d.toNat)), [.fz (.int n), .fz (.int d)]) := by
  have hg : 0 < n.natAbs.gcd d.natAbs := Nat.gcd_pos_of_pos_right _ (by omega)
  have hgl : n.natAbs.gcd d.natAbs ≤ d.natAbs := Nat.gcd_le_right _ (by omega)
  have k1 : ∀ i, okDiv i ((n.natAbs.gcd d.natAbs : Nat) : Int) = true := fun i => okDiv_small (by omega) (by
    show (n.natAbs.gcd d.natAbs) < _
    exact Nat.lt_of_le_of_lt hgl (Nat.lt_trans hb (Nat.pow_lt_pow_right (by decide) (by decide))))
  have e : encR (mkRat n d.toNat) = .tuple [.int (n / ((n.natAbs.gcd d.natAbs : Nat) : Int)), .int (d / ((n.natAbs.gcd d.natAbs : Nat) : Int))] := by
    have hn : d.toNat = d.natAbs := by omega
    unfold encR
    rw [Rat.num_mkRat, Rat.den_mkRat, if_neg (by omega), if_neg (by omega), hn, Nat.gcd_comm d.natAbs n.natAbs]
    have : ((d.natAbs / n.natAbs.gcd d.natAbs : Nat) : Int) = d / ((n.natAbs.gcd d.natAbs : Nat) : Int) := by
      rw [Int.natCast_ediv, Int.natAbs_of_nonneg (by omega)]
    rw [this]
  have hgd := gd_run hn2 hb
  have a1 : (if n < 0 then -n else n) = (n.natAbs : Int) := by split <;> omega
  have a2 : (if d < 0 then -d else d) = (d.natAbs : Int) := by split <;> omega
  rw [e]
  unfold m__law_fraction mb__law_fraction
  rw [x_fnM]
  simp [gGt, gI, hd, gCallF, g1, gAbs, a1, a2, hgd, gDiv, k1, gTup', x_size]
end PD
set_option Elab.async false
set_option linter.all false
set_option maxRecDepth 100000
set_option maxHeartbeats 4000000
set_option exponentiation.threshold 5000
namespace PD
open PySem L2 PD.G
theorem fr_add {D M1 M2 : Nat} {q r : Rat} (hq : q.num.natAbs ≤ M1 ∧ q.den ≤ D) (hr : r.num.natAbs ≤ M2 ∧ r.den ≤ D) (hD : D < 2 ^ 400) (h1 : M1 < 2 ^ 400) (h2 : M2 < 2 ^ 400) :
    m__law_fraction [.fz (.int (q.num * r.den + r.num * q.den)), .fz (.int (q.den * r.den))] = some (.fz (encR (q + r)), [.fz (.int (q.num * r.den + r.num * q.den)), .fz (.int (q.den * r.den))]) := by
  have p1 := q.den_pos
  have p2 := r.den_pos
  have hpos : 0 < q.den * r.den := Nat.mul_pos p1 p2
  have hle : q.den * r.den ≤ D * D := Nat.mul_le_mul hq.2 hr.2
  have hD2 : D * D < 2 ^ 400 * 2 ^ 400 := Nat.mul_lt_mul'' hD hD
  have e400 : (2 : Nat) ^ 400 * 2 ^ 400 = 2 ^ 800 := by rw [← Nat.pow_add]
  have e : ((q.den * r.den : Int)).natAbs = q.den * r.den := by rw [← Int.natCast_mul, Int.natAbs_natCast]
  have e2 : (q.den * r.den : Int).toNat = q.den * r.den := by rw [← Int.natCast_mul, Int.toNat_natCast]
  have b1 : (q.num * r.den).natAbs < 2 ^ 800 := by
    rw [Int.natAbs_mul, Int.natAbs_natCast, ← e400]
    exact Nat.mul_lt_mul'' (by omega) (by omega)
  have b2 : (r.num * q.den).natAbs < 2 ^ 800 := by
    rw [Int.natAbs_mul, Int.natAbs_natCast, ← e400]
    exact Nat.mul_lt_mul'' (by omega) (by omega)
  have b3 : (q.num * r.den + r.num * q.den).natAbs < 2 ^ 900 := by
    have := Int.natAbs_add_le (q.num * r.den) (r.num * q.den)
    have h8 : (2 : Nat) ^ 800 + 2 ^ 800 < 2 ^ 900 := by decide
    omega
  have := fraction_run (n := q.num * r.den + r.num * q.den) (d := q.den * r.den) (by exact_mod_cast hpos) b3 (by
    rw [e]
    refine Nat.lt_of_le_of_lt hle (Nat.lt_trans hD2 ?_)
    rw [e400]
    exact Nat.pow_lt_pow_right (by decide) (by decide))
  rw [this, e2, add_lowest]
theorem summed_loop {D M R L} (lm : Lm D M L) {d0 : OV} : ∀ (rest acc : Tms) (M1 M2 : Nat) (z : SV), (∀ u, z ≠ .io u) → (acc.map (·.1)).Nodup → Bd D M1 R acc → Bd D M2 R rest → M1 + M2 ≤ M → acc.length + rest.length ≤ L →
    ∃ acc' z', forL [3, 4, 5] fg__law_summed_1 fb__law_summed_1 (rest.map encT) [.v d0, .v (encD acc), z, .un, .un, .un] = some (.nx, [.v d0, .v (encD acc'), z', .un, .un, .un]) ∧ (∀ u, z' ≠ .io u) ∧
      (acc'.map (·.1)).Nodup ∧ Bd D M R acc' ∧ (∀ k, val acc' k = val acc k + val rest k) ∧ acc'.length ≤ acc.length + rest.length
  | [], acc, M1, M2, z, hz, hn, h1, h2, hM, hL => ⟨acc, z, rfl, hz, hn, h1.mono (by omega) (Int.le_refl _), fun k => by simp; grind, Nat.le_refl _⟩
  | t :: rest, acc, M1, M2, z, hz, hn, h1, h2, hM, hL => by
    have hb : Bd D (nz D t.2).natAbs R [t] := ⟨fun u hu => h2.dv u (by simp at hu; simp [hu]), by simp [l1], fun u hu => h2.rg u (by simp at hu; simp [hu])⟩
    have h2' : Bd D (l1 D rest) R rest := ⟨fun u hu => h2.dv u (List.mem_cons_of_mem _ hu), Nat.le_refl _, fun u hu => h2.rg u (List.mem_cons_of_mem _ hu)⟩
    have hs := h2.le
    rw [l1_cons] at hs
    have hlen : (addA t acc).length ≤ acc.length + 1 := putA_length _ _ _
    simp only [List.length_cons] at hL
    obtain ⟨acc', z', e, hz', g1, g2, g3, g4⟩ := summed_loop (d0 := d0) lm rest (addA t acc) (M1 + (nz D t.2).natAbs) (l1 D rest) (.v (.fz (.int t.1))) (fun u => by simp) (addA_nodup hn) (h1.addA lm.d0 hb) h2' (by omega) (by omega)
    refine ⟨acc', z', ?_, hz', g1, g2, fun k => by rw [g3, val_addA hn, val_cons]; grind, by simp only [List.length_cons]; omega⟩
    rw [List.map_cons]
    have ha := getD_num h1 lm.d0 t.1
    have hbb := hb.one (t := t) (by simp) lm.d0
    have hd := lm.d1
    have hm := lm.m1
    have hlow := fr_add ha hbb hd (by omega) (by omega)
    obtain ⟨a1, a2⟩ := ha
    obtain ⟨b1, b2⟩ := hbb
    have k1 : okMul ((getA t.1 acc).getD 0).num t.2.den = true := okMul_small (lt1000 (by omega)) (lt1000 (by simp; omega))
    have k2 : okMul t.2.num ((getA t.1 acc).getD 0).den = true := okMul_small (lt1000 (by omega)) (lt1000 (by simp; omega))
    have k3 : okMul ((getA t.1 acc).getD 0).den t.2.den = true := okMul_small (lt1000 (by simp; omega)) (lt1000 (by simp; omega))
    have hacc : acc.length < sizeLine := by
      have := lm.l1
      omega
    have hput := putD_acc (k := t.1) (q := (getA t.1 acc).getD 0 + t.2) hn hacc
    have hdc : ∀ S : SS, isDc 1 (.v d0 :: .v (encD acc) :: S) = true := fun S => rfl
    rw [show addA t acc = putA t.1 ((getA t.1 acc).getD 0 + t.2) acc from rfl] at e
    have hg := dget2_acc (fa := eVar 1) (fb := eVar 2) (fc := eCall gTup' (aCons true (eC (.int 0)) (aCons true (eC (.int 1)) aNil))) (S := [.v d0, .v (encD acc), .v (.fz (.int t.1)), .v (.fz (.int t.2.num)), .v (.fz (.int t.2.den)), .un]) (acc := acc) (k := t.1) rfl rfl (by simp [gTup', x_size])
    generalize (getA t.1 acc).getD 0 = q at *
    have hb1 : fg__law_summed_1 (encT t) [.v d0, .v (encD acc), z, .un, .un, .un] = some [.v d0, .v (encD acc), .v (.fz (.int t.1)), .v (.fz (.int t.2.num)), .v (.fz (.int t.2.den)), .un] := by
      cases z with
      | io u => exact absurd rfl (hz u)
      | _ => simp [fg__law_summed_1, encT, encR]
    have hb2 : fb__law_summed_1 [.v d0, .v (encD acc), .v (.fz (.int t.1)), .v (.fz (.int t.2.num)), .v (.fz (.int t.2.den)), .un] =
        some (.nx, [.v d0, .v (encD (putA t.1 (q + t.2) acc)), .v (.fz (.int t.1)), .v (.fz (.int t.2.num)), .v (.fz (.int t.2.den)), .v (.fz (encR q))]) := by
      unfold fb__law_summed_1
      simp only [encR] at hg
      simp [-x_eDGet2, hg, gMulX, gAddX, gIx, atI, ixN, k1, k2, k3, hdc, gCallF, hlow, getS, SV.ov, hput, modS, SV.put]
      rfl
    rw [forL_cons hb1 hb2]
    exact e
theorem summed_run {D M R L} (lm : Lm D M L) {ts : Tms} {o : PyData} (ho : seqD (.fz o) = some (ts.map encT)) (h : Bd D M R ts) (hL : ts.length ≤ L) :
    m__law_summed [.fz o] = some (.fz (encN (cano ts)), [.fz o]) ∧ Gath D M R ts.length ts (cano ts) := by
  refine ⟨?_, (gathered_run lm ho h hL).2⟩
  obtain ⟨acc, z, e, hz, g1, g2, g3, g4⟩ := summed_loop (d0 := .fz o) lm ts [] 0 M .un (fun u => by simp) (by simp) Bd.nil h (by omega) (by simpa using hL)
  have hvl : ∀ k, val (canon acc) k = val ts k := fun k => by rw [canon_val g1, g3]; simp; grind
  have hcano : cano ts = canon acc := Cn.ext (cano_cn ts) (canon_cn g1) fun k => by rw [cano_val, hvl]
  rw [hcano]
  have hlen : (ksort acc).length ≤ sizeLine := by
    rw [(ksort_perm acc).length_eq, List.length_map]
    have := lm.l1
    simp at g4
    omega
  have hsort : gSortK (encD acc) = some (.ol (((ksort acc).map PyData.int).map OV.fz)) := by
    unfold gSortK encD ksort
    have : (acc.map fun t => (Sum.inl t.1 : Key)) = (acc.map (·.1)).map Sum.inl := by rw [List.map_map]; rfl
    simp only [this, keysI_map, Option.map_some]
  have hi : iSeq (oFr (eCall (PD.g1 gSortK) (aCons true (eVar 1) aNil))) [.v (.fz o), .v (encD acc), z, .un, .un, .un] = some ((ksort acc).map PyData.int, [.v (.fz o), .v (encD acc), z, .un, .un, .un]) := by
    simp [PD.g1, hsort, seqD, Function.comp_def]
  have hlc := eLc_map (vs := [2]) (gv := tgN 2) (ft := bOf (eBin gNe true (eBin gIx true (eBin gDGet true (eVar 1) (eVar 2)) (eC (.int 0))) (eC (.int 0)))) (f := ce__law_summed_1) (A := Int) PyData.int (fun k => decide (val acc k ≠ 0)) (fun k => .fz (encT (k, val acc k))) hi hlen (fun k hk => by
    have hk' : k ∈ acc.map (·.1) := (ksort_perm acc).mem_iff.mp hk
    obtain ⟨q, hq⟩ := getA_some hk'
    have hv : val acc k = q := by rw [← getA_val g1, hq]; rfl
    have hdg : gDGet (encD acc) (.fz (.int k)) = some (.fz (encR q)) := by
      simp only [gDGet, dg_acc, hq, Option.map_some]
    rw [hv]
    refine ⟨[.v (.fz o), .v (encD acc), .v (.fz (.int k)), .un, .un, .un], [.v (.fz o), .v (encD acc), .v (.fz (.int k)), .un, .un, .un], by simp, ?_, fun _ => ⟨[.v (.fz o), .v (encD acc), .v (.fz (.int k)), .un, .un, .un], ?_, rfl⟩, fun _ => rfl⟩
    · simp [hdg, gIx, encR, gNe, atI, ixN]
      rw [Bool.eq_iff_iff]
      simp [Rat.num_eq_zero]
    · simp [ce__law_summed_1, hdg, gTup', x_size, encT])
  have hfor : gFor [3, 4, 5] (iSeq (eVar 0)) fg__law_summed_1 fb__law_summed_1 [.v (.fz o), .v (.ok [] []), .un, .un, .un, .un] = some (.nx, [.v (.fz o), .v (encD acc), z, .un, .un, .un]) :=
    gFor_of (ds := ts.map encT) (S1 := [.v (.fz o), .v (.ok [] []), .un, .un, .un, .un]) (by simp [ho]) e
  have hseq : ∀ xs : List (Int × Rat), seqX (.ol (xs.map fun t => OV.fz (encT t))) = some (xs.map encT) := fun xs => by
    have : (xs.map fun t => OV.fz (encT t)) = (xs.map encT).map OV.fz := by rw [List.map_map]; rfl
    unfold seqX
    rw [this]
    exact allFz_fz _
  have hseq' : seqX (.ol (((ksort acc).filter fun k => !decide (val acc k = 0)).map fun k => OV.fz (encT (k, val acc k)))) = some ((canon acc).map encT) := by
    have := hseq (canon acc)
    unfold canon at this ⊢
    simpa [List.map_map, Function.comp_def] using this
  simp only [m__law_summed, mb__law_summed, x_fnM, x_gSeq, x_gSet, x_gRet, x_eCall, x_aCons, x_aNil]
  simp [-x_gFor, -x_eLc, hfor, hlc, PD.g1, gTuple, hseq', encN]
end PD
set_option Elab.async false
set_option linter.all false
set_option maxRecDepth 100000
set_option maxHeartbeats 4000000
set_option exponentiation.threshold 5000
namespace PD
open PySem L2 PD.G
/-! ### the law's total, times, minus -/
theorem ltotal_loop {s0 : SV} (ns : List Tms) : ∀ (acc : Tms), acc.length + ns.flatten.length ≤ sizeLine →
    forL [2] fg__law_total_1 fb__law_total_1 (ns.map encN) [s0, .v (.ol ((acc.map encT).map OV.fz)), .un] = some (.nx, [s0, .v (.ol (((acc ++ ns.flatten).map encT).map OV.fz)), .un]) := by
  induction ns with
  | nil => intro acc _; simp [forL]
  | cons n ns ih =>
    intro acc hz
    rw [List.flatten_cons, List.length_append] at hz
    have hb : fb__law_total_1 [s0, .v (.ol ((acc.map encT).map OV.fz)), .v (.fz (encN n))] = some (.nx, [s0, .v (.ol (((acc ++ n).map encT).map OV.fz)), .v (.fz (encN n))]) := by
      have hl : isOl 1 [s0, .v (.ol ((acc.map encT).map OV.fz)), .v (.fz (encN n))] = true := rfl
      have hs : seqX (.fz (encN n)) = some (n.map encT) := rfl
      have hg : getS 1 [s0, .v (.ol ((acc.map encT).map OV.fz)), .v (.fz (encN n))] = some (.ol ((acc.map encT).map OV.fz)) := rfl
      unfold fb__law_total_1 gExt
      rw [if_pos hl]
      simp only [show eVar 2 [s0, .v (.ol ((acc.map encT).map OV.fz)), .v (.fz (encN n))] = some (.fz (encN n), [s0, .v (.ol ((acc.map encT).map OV.fz)), .v (.fz (encN n))]) from rfl, hs, hg, List.length_map]
      rw [if_pos (by omega)]
      simp [modS, SV.put]
    have hg : fg__law_total_1 (encN n) [s0, .v (.ol ((acc.map encT).map OV.fz)), .un] = some [s0, .v (.ol ((acc.map encT).map OV.fz)), .v (.fz (encN n))] := by simp [fg__law_total_1]
    rw [List.map_cons, forL_cons hg hb, List.flatten_cons, ← List.append_assoc]
    exact ih (acc ++ n) (by rw [List.length_append]; omega)
theorem ltotal_run {D M R L} (lm : Lm D M L) {ns : List Tms} {o : PyData} (ho : seqD (.fz o) = some (ns.map encN)) (h : Bd D M R ns.flatten) (hL : ns.flatten.length ≤ L) :
    m__law_total [.fz o] = some (.fz (encN (cano ns.flatten)), [.fz o]) := by
  have hl := ltotal_loop (s0 := .v (.fz o)) ns [] (by have := lm.l1; show 0 + ns.flatten.length ≤ sizeLine; omega)
  have hfor : gFor [2] (iSeq (eVar 0)) fg__law_total_1 fb__law_total_1 [.v (.fz o), .v (.ol []), .un] = some (.nx, [.v (.fz o), .v (.ol ((ns.flatten.map encT).map OV.fz)), .un]) :=
    gFor_of (ds := ns.map encN) (S1 := [.v (.fz o), .v (.ol []), .un]) (by simp [ho]) hl
  have hs := (summed_run lm (ts := ns.flatten) (o := .list (ns.flatten.map encT)) rfl h hL).1
  have her : (OV.ol ((ns.flatten.map encT).map OV.fz)).erase = .list (ns.flatten.map encT) := erase_fzs _
  unfold m__law_total mb__law_total
  rw [x_fnM]
  generalize ns.flatten = ts at *
  simp [-x_gFor, hfor, gLst', x_size, -x_erase_ol, her, -List.map_map, gCallF, hs]
theorem fr_mul {q r : Rat} {D E M N : Nat} (hq : q.num.natAbs ≤ M ∧ q.den ≤ D) (hr : r.num.natAbs ≤ N ∧ r.den ≤ E) (hD : D < 2 ^ 400) (hE : E < 2 ^ 400) (hM : M < 2 ^ 400) (hN : N < 2 ^ 400) :
    okMul q.num r.num = true ∧ okMul q.den r.den = true ∧ m__law_fraction [.fz (.int (q.num * r.num)), .fz (.int (q.den * r.den))] = some (.fz (encR (q * r)), [.fz (.int (q.num * r.num)), .fz (.int (q.den * r.den))]) := by
  obtain ⟨k1, k2, _⟩ := mul_low hq hr hD hE hM hN
  refine ⟨k1, k2, ?_⟩
  have hpos : 0 < q.den * r.den := Nat.mul_pos q.den_pos r.den_pos
  have hle : q.den * r.den ≤ D * E := Nat.mul_le_mul hq.2 hr.2
  have e400 : (2 : Nat) ^ 400 * 2 ^ 400 = 2 ^ 800 := by rw [← Nat.pow_add]
  have hD2 : D * E < 2 ^ 400 * 2 ^ 400 := Nat.mul_lt_mul'' hD hE
  have e : ((q.den * r.den : Int)).natAbs = q.den * r.den := by rw [← Int.natCast_mul, Int.natAbs_natCast]
  have e2 : (q.den * r.den : Int).toNat = q.den * r.den := by rw [← Int.natCast_mul, Int.toNat_natCast]
  have p8 : (2 : Nat) ^ 800 < 2 ^ 900 := by decide
  have := fraction_run (n := q.num * r.num) (d := q.den * r.den) (by exact_mod_cast hpos) (by
    rw [Int.natAbs_mul]
    refine Nat.lt_trans ?_ p8
    rw [← e400]
    exact Nat.mul_lt_mul'' (by omega) (by omega)) (by
    rw [e]
    exact Nat.lt_of_le_of_lt hle (Nat.lt_trans hD2 (by rw [e400]; exact p8)))
  rw [this, e2, mul_lowest]
theorem ltimes_in {D E M N : Nat} (hD4 : D < 2 ^ 400) (hE4 : E < 2 ^ 400) (hM4 : M < 2 ^ 400) (hN4 : N < 2 ^ 400) {o1 o2 : SV} {t : Int × Rat} (ht : t.2.num.natAbs ≤ M ∧ t.2.den ≤ D) (b : Tms) : ∀ (acc : Tms), (∀ u ∈ b, u.2.num.natAbs ≤ N ∧ u.2.den ≤ E) → acc.length + b.length ≤ sizeLine →
    forL [5, 6] fg__law_times_1 fb__law_times_1 (b.map encT) [o1, o2, .v (.ol ((acc.map encT).map OV.fz)), .v (.fz (.int t.1)), .v (.fz (encR t.2)), .un, .un] =
      some (.nx, [o1, o2, .v (.ol (((acc ++ b.map fun u => (t.1 + u.1, t.2 * u.2)).map encT).map OV.fz)), .v (.fz (.int t.1)), .v (.fz (encR t.2)), .un, .un]) := by
  induction b with
  | nil => intro acc _ _; simp [forL]
  | cons u b ih =>
    intro acc hu hz
    rw [List.length_cons] at hz
    obtain ⟨k1, k2, k3⟩ := fr_mul ht (hu u List.mem_cons_self) hD4 hE4 hM4 hN4
    have hac : acc.length < 16777216 := by have := x_size; omega
    have hg : fg__law_times_1 (encT u) [o1, o2, .v (.ol ((acc.map encT).map OV.fz)), .v (.fz (.int t.1)), .v (.fz (encR t.2)), .un, .un] = some [o1, o2, .v (.ol ((acc.map encT).map OV.fz)), .v (.fz (.int t.1)), .v (.fz (encR t.2)), .v (.fz (.int u.1)), .v (.fz (encR u.2))] := by simp [fg__law_times_1, encT]
    have hb : fb__law_times_1 [o1, o2, .v (.ol ((acc.map encT).map OV.fz)), .v (.fz (.int t.1)), .v (.fz (encR t.2)), .v (.fz (.int u.1)), .v (.fz (encR u.2))] =
        some (.nx, [o1, o2, .v (.ol (((acc ++ [(t.1 + u.1, t.2 * u.2)]).map encT).map OV.fz)), .v (.fz (.int t.1)), .v (.fz (encR t.2)), .v (.fz (.int u.1)), .v (.fz (encR u.2))]) := by
      unfold fb__law_times_1
      generalize hq : encR (t.2 * u.2) = w at *
      simp [encR, gIx, atI, ixN, gAddX, gMulX, k1, k2, gCallF, k3, gTup', x_size, isOl, getS, SV.ov, modS, SV.put, hac, encT]
      exact hq.symm
    have e2 : acc ++ (u :: b).map (fun u => (t.1 + u.1, t.2 * u.2)) = (acc ++ [(t.1 + u.1, t.2 * u.2)]) ++ b.map fun u => (t.1 + u.1, t.2 * u.2) := by simp
    rw [List.map_cons, forL_cons hg hb, e2]
    exact ih (acc ++ [(t.1 + u.1, t.2 * u.2)]) (fun x hx => hu x (List.mem_cons_of_mem _ hx)) (by rw [List.length_append, List.length_singleton]; omega)
theorem ltimes_loop {D E M N : Nat} {R T : Int} (hD : 0 < D) (hE : 0 < E) (hD4 : D < 2 ^ 400) (hE4 : E < 2 ^ 400) (hM4 : M < 2 ^ 400) (hN4 : N < 2 ^ 400) {b : Tms} (hb : Bd E N T b) {o1 : SV} (a : Tms) : ∀ (acc : Tms), Bd D M R a → acc.length + a.length * b.length ≤ sizeLine →
    forL [3, 4, 5, 6] fg__law_times_2 fb__law_times_2 (a.map encT) [o1, .v (.fz (encN b)), .v (.ol ((acc.map encT).map OV.fz)), .un, .un, .un, .un] =
      some (.nx, [o1, .v (.fz (encN b)), .v (.ol (((acc ++ prodT a b).map encT).map OV.fz)), .un, .un, .un, .un]) := by
  induction a with
  | nil => intro acc _ _; simp [forL, prodT]
  | cons t a ih =>
    intro acc h hz
    have hz' : acc.length + (a.length * b.length + b.length) ≤ sizeLine := by
      rw [List.length_cons, Nat.succ_mul] at hz
      exact hz
    have ht := h.one (t := t) List.mem_cons_self hD
    have h' : Bd D M R a := ⟨fun x hx => h.dv x (List.mem_cons_of_mem _ hx), by have := h.le; rw [l1_cons] at this; omega, fun x hx => h.rg x (List.mem_cons_of_mem _ hx)⟩
    have hin := ltimes_in (o1 := o1) (o2 := .v (.fz (encN b))) hD4 hE4 hM4 hN4 ht b acc (fun u hu => hb.one hu hE) (by omega)
    have hg : fg__law_times_2 (encT t) [o1, .v (.fz (encN b)), .v (.ol ((acc.map encT).map OV.fz)), .un, .un, .un, .un] = some [o1, .v (.fz (encN b)), .v (.ol ((acc.map encT).map OV.fz)), .v (.fz (.int t.1)), .v (.fz (encR t.2)), .un, .un] := by simp [fg__law_times_2, encT]
    have hbody : fb__law_times_2 [o1, .v (.fz (encN b)), .v (.ol ((acc.map encT).map OV.fz)), .v (.fz (.int t.1)), .v (.fz (encR t.2)), .un, .un] =
        some (.nx, [o1, .v (.fz (encN b)), .v (.ol (((acc ++ b.map fun u => (t.1 + u.1, t.2 * u.2)).map encT).map OV.fz)), .v (.fz (.int t.1)), .v (.fz (encR t.2)), .un, .un]) := by
      unfold fb__law_times_2
      exact gFor_of (ds := b.map encT) (S1 := [o1, .v (.fz (encN b)), .v (.ol ((acc.map encT).map OV.fz)), .v (.fz (.int t.1)), .v (.fz (encR t.2)), .un, .un]) (by simp [encN, seqD]) hin
    have e2 : acc ++ prodT (t :: a) b = (acc ++ b.map fun u => (t.1 + u.1, t.2 * u.2)) ++ prodT a b := by simp [prodT]
    rw [List.map_cons, forL_cons hg hbody, e2]
    exact ih (acc ++ b.map fun u => (t.1 + u.1, t.2 * u.2)) h' (by rw [List.length_append, List.length_map]; omega)
theorem lmul_run {D E M N : Nat} {R T : Int} (ok : MulOk D E M N R T) {a b : Tms} (ha : NB D M R a) (hb : NB E N T b) :
    m__law_times [.fz (encN a), .fz (encN b)] = some (.fz (encN (mulN a b)), [.fz (encN a), .fz (encN b)]) := by
  have la := ha.len ok.r0
  have lb := hb.len ok.t0
  have ra := ok.r4
  have rb := ok.t4
  have h1 : a.length ≤ 2001 := by omega
  have h2 : b.length ≤ 2001 := by omega
  have h3 : a.length * b.length ≤ 2001 * 2001 := Nat.mul_le_mul h1 h2
  have hz : a.length * b.length ≤ sizeLine := by rw [x_size]; omega
  have hbd := prodT_bd ok.d0 ok.e0 hb.bd ha.bd
  have hs := (summed_run ok.lm (ts := prodT a b) (o := .list ((prodT a b).map encT)) rfl hbd (by rw [prodT_len]; exact hz)).1
  have hl := ltimes_loop (R := R) (o1 := .v (.fz (encN a))) ok.d0 ok.e0 (lt400 ok.d4) (lt400 ok.e4) (lt400 ok.m4) (lt400 ok.n4) hb.bd a [] ha.bd (by show 0 + _ ≤ _; omega)
  have hfor : gFor [3, 4, 5, 6] (iSeq (eVar 0)) fg__law_times_2 fb__law_times_2 [.v (.fz (encN a)), .v (.fz (encN b)), .v (.ol []), .un, .un, .un, .un] = some (.nx, [.v (.fz (encN a)), .v (.fz (encN b)), .v (.ol (((prodT a b).map encT).map OV.fz)), .un, .un, .un, .un]) :=
    gFor_of (ds := a.map encT) (S1 := [.v (.fz (encN a)), .v (.fz (encN b)), .v (.ol []), .un, .un, .un, .un]) (by simp [encN, seqD]) hl
  have her : (OV.ol (((prodT a b).map encT).map OV.fz)).erase = .list ((prodT a b).map encT) := erase_fzs _
  unfold m__law_times mb__law_times
  rw [x_fnM]
  unfold mulN
  generalize prodT a b = ts at *
  simp [-x_gFor, hfor, gLst', x_size, -x_erase_ol, her, -List.map_map, gCallF, hs]
/-! ### minus -/
def negN (a : Tms) : Tms := a.map fun t => (t.1, -t.2)
theorem encR_neg (q : Rat) : encR (-q) = .tuple [.int (-q.num), .int q.den] := by
  unfold encR
  rw [Rat.neg_num, Rat.neg_den]
theorem minus_run {a : Tms} (hl : a.length ≤ sizeLine) : m__law_minus [.fz (encN a)] = some (.fz (encN (negN a)), [.fz (encN a)]) := by
  have hlc := eLc_map (vs := [1, 2]) (fi := iSeq (eVar 0)) (gv := tgT 2 (tgCons (tgN 1) (tgCons (tgN 2) tgNil))) (ft := bYes) (f := ce__law_minus_1) encT (fun _ => true) (fun t => OV.fz (encT (t.1, -t.2))) (as := a) (S0 := [.v (.fz (encN a)), .un, .un]) (S := [.v (.fz (encN a)), .un, .un]) (by simp [encN, seqD]) hl (fun t ht => by
    refine ⟨[.v (.fz (encN a)), .v (.fz (.int t.1)), .v (.fz (encR t.2))], _, by simp [encT], rfl, fun _ => ⟨[.v (.fz (encN a)), .v (.fz (.int t.1)), .v (.fz (encR t.2))], ?_, rfl⟩, fun z => by cases z⟩
    have e : encT (t.1, -t.2) = .tuple [.int t.1, .tuple [.int (-t.2.num), .int t.2.den]] := by
      show PyData.tuple [.int t.1, encR (-t.2)] = _
      rw [encR_neg]
    rw [e]
    simp [ce__law_minus_1, encR, gIx, atI, ixN, gNeg, gTup', x_size])
  have hft : a.filter (fun _ => true) = a := by simp
  rw [hft, map_fz [] (fun t : Int × Rat => encT (t.1, -t.2))] at hlc
  have hs : seqX (.ol ((a.map fun t => encT (t.1, -t.2)).map OV.fz)) = some (a.map fun t => encT (t.1, -t.2)) := allFz_fz _
  have e : encN (negN a) = .tuple (a.map fun t => encT (t.1, -t.2)) := by unfold encN negN; rw [List.map_map]; rfl
  rw [e]
  unfold m__law_minus mb__law_minus
  rw [x_fnM]
  simp [-x_eLc, hlc, g1, gTuple, hs, -List.map_map]
theorem negN_val (a : Tms) (k : Int) : val (negN a) k = - val a k := by
  induction a with
  | nil => simp [negN]
  | cons t a ih =>
    have : negN (t :: a) = (t.1, -t.2) :: negN a := rfl
    rw [this, val_cons, val_cons, ih]
    grind
end PD
set_option Elab.async false
set_option linter.all false
set_option maxRecDepth 100000
set_option maxHeartbeats 4000000
set_option exponentiation.threshold 5000
namespace PD
open PySem L2 PD.G
/-! ### the bag of draws -/
structure Bag where
  cell : Int
  stir : Int
  idx : Int
  ns : List Int
def encB (b : Bag) : OV := .ol [.fz (.int b.cell), .fz (.int b.stir), .fz (.int b.idx), .fz (.list (b.ns.map PyData.int))]
structure BgOk (b : Bag) : Prop where
  c0 : 0 ≤ b.cell
  s0 : 0 ≤ b.stir
  s1 : b.stir < 2147483647
  i0 : 0 ≤ b.idx
  i1 : b.idx < 2 ^ 60
  n0 : ∀ n ∈ b.ns, 0 ≤ n
  nl : b.ns.length ≤ 63
def nextC (b : Bag) : Int := (((b.ns.drop b.idx.toNat)[0]?).getD 0)
theorem nextC_nn {b : Bag} (h : BgOk b) : 0 ≤ nextC b := by
  unfold nextC
  cases e : (b.ns.drop b.idx.toNat)[0]? with
  | none => simp
  | some n => exact h.n0 n (List.mem_of_mem_drop (List.mem_of_getElem? e))
theorem cut_from (xs : List PyData) {i : Int} (h0 : 0 ≤ i) (h1 : i < 2 ^ 60) : cutD xs (some i) none = xs.drop i.toNat := by
  obtain ⟨n, rfl⟩ := Int.eq_ofNat_of_zero_le h0
  unfold cutD
  rw [show HT.sIx xs.length 0 (some (n : Int)) = min n xs.length from HT.sIx_nat xs.length 0 n, HT.sIx_none, Int.toNat_natCast]
  by_cases h : n ≤ xs.length
  · rw [Nat.min_eq_left h]
    rw [List.take_of_length_le (by rw [List.length_drop]; omega)]
  · rw [Nat.min_eq_right (by omega), List.drop_of_length_le (by omega), List.drop_of_length_le (by omega)]
    simp
theorem next_ix {b : Bag} (h : BgOk b) : gIx (.ol (((b.ns.drop b.idx.toNat).map PyData.int ++ [PyData.int 0]).map OV.fz)) (.fz (.int 0)) = some (.fz (.int (nextC b))) := by
  unfold nextC
  cases e : b.ns.drop b.idx.toNat with
  | nil => rfl
  | cons x xs =>
    have h1 : ixN (((x :: xs).map PyData.int ++ [PyData.int 0]).map OV.fz).length 0 = some 0 := by
      unfold ixN
      rw [if_pos (Int.le_refl 0), if_pos (by simp; omega)]
      rfl
    simp only [gIx, atI, h1]
    rfl
/-- the bag behind a cell that is taken up -/
def refill (b : Bag) : Bag := ⟨if 10 ^ 18 ≤ nextC b then nextC b else 0, (b.stir * 48271 + nextC b % 2147483647 + 7919 * (b.idx + 1)) % 2147483647, b.idx + 1, b.ns⟩
theorem refill_ok {b : Bag} (h : BgOk b) (hi : b.idx + 1 < 2 ^ 60) : BgOk (refill b) := by
  refine ⟨?_, Int.emod_nonneg _ (by decide), Int.emod_lt_of_pos _ (by decide), ?_, hi, h.n0, h.nl⟩
  · show 0 ≤ if 10 ^ 18 ≤ nextC b then nextC b else 0
    split
    · exact nextC_nn h
    · exact Int.le_refl _
  · show 0 ≤ b.idx + 1
    have := h.i0
    omega
def mbA : SM := (gSeq (gSet 2 (eBin gIx true (eBin gAddX true (eSl true true (eBin gIx true (eVar 0) (eC (.int 3))) (pSo (eBin gIx true (eVar 0) (eC (.int 2)))) pNo) (eCall gLst' (aCons true (eC (.int 0)) aNil))) (eC (.int 0))))
  (gSeq (gAugIx (fun i j => i + j) 0 (eC (.int 2)) (eC (.int 1)))
  (gSeq (gIf (bOf (eBin gGe true (eVar 2) (eBin gPow true (eC (.int 10)) (eC (.int 18)))))
  (gPutIx 0 (oFz (eVar 2)) (eC (.int 0)))
  gNx)
  (gSeq (gSet 3 (eBin gAddX true (eBin gAddX true (eBin gMulX true (eBin gIx true (eVar 0) (eC (.int 1))) (eC (.int 48271))) (eBin gMod true (eCall (g1 gInt) (aCons true (eVar 2) aNil)) (eC (.int 2147483647)))) (eBin gMulX true (eC (.int 7919)) (eBin gIx true (eVar 0) (eC (.int 2))))))
  (gPutIx 0 (eBin gMod true (eCall (g1 gInt) (aCons true (eVar 3) aNil)) (eC (.int 2147483647))) (eC (.int 1)))))))
theorem refill_run {b : Bag} (h : BgOk b) (hi : b.idx + 1 < 2 ^ 60) (hc : b.cell = 0) {m : SV} : ∃ x3, mbA [.io (encB b), m, .un, .un, .un, .un, .un] = some (.nx, [.io (encB (refill b)), m, .v (.fz (.int (nextC b))), .v (.fz (.int x3)), .un, .un, .un]) := by
  have hcut := cut_from (b.ns.map PyData.int) h.i0 h.i1
  have hnx := next_ix h
  rw [← List.map_drop] at hcut
  have st1 : gSet 2 (eBin gIx true (eBin gAddX true (eSl true true (eBin gIx true (eVar 0) (eC (.int 3))) (pSo (eBin gIx true (eVar 0) (eC (.int 2)))) pNo) (eCall gLst' (aCons true (eC (.int 0)) aNil))) (eC (.int 0))) [.io (encB b), m, .un, .un, .un, .un, .un] =
      some (.nx, [.io (encB b), m, .v (.fz (.int (nextC b))), .un, .un, .un, .un]) := by
    have g3 : gIx (encB b) (.fz (.int 3)) = some (.fz (.list (b.ns.map PyData.int))) := rfl
    have g2 : gIx (encB b) (.fz (.int 2)) = some (.fz (.int b.idx)) := rfl
    have gs : gSl (.fz (.list (b.ns.map PyData.int))) (some b.idx) none = some (.ol (((b.ns.drop b.idx.toNat).map PyData.int).map OV.fz)) := by
      unfold gSl
      simp only [hcut]
    have ga : gAddX (.ol (((b.ns.drop b.idx.toNat).map PyData.int).map OV.fz)) (.ol [.fz (.int 0)]) = some (.ol (((b.ns.drop b.idx.toNat).map PyData.int ++ [PyData.int 0]).map OV.fz)) := by
      have hl : ((b.ns.drop b.idx.toNat).map PyData.int).length + 1 ≤ sizeLine := by
        rw [x_size, List.length_map, List.length_drop]
        have := h.nl
        omega
      generalize (b.ns.drop b.idx.toNat).map PyData.int = xs at *
      unfold gAddX
      have i1 : itemsL (.ol (xs.map OV.fz)) = some xs := allFz_fz xs
      have i2 : itemsL (.ol [.fz (.int 0)]) = some [.int 0] := rfl
      simp only [i1, i2]
      exact if_pos hl
    simp [-x_eSl, gLst', x_size]
    unfold eSl
    simp [g3, g2, gs, ga, hnx, -List.map_map, -List.map_drop, -List.map_append]
  have hii : ¬ (b.idx + 1 < 0) := by have := h.i0; omega
  have st2 : gAugIx (fun i j => i + j) 0 (eC (.int 2)) (eC (.int 1)) [.io (encB b), m, .v (.fz (.int (nextC b))), .un, .un, .un, .un] =
      some (.nx, [.io (encB ⟨b.cell, b.stir, b.idx + 1, b.ns⟩), m, .v (.fz (.int (nextC b))), .un, .un, .un, .un]) := rfl
  have st3 : gIf (bOf (eBin gGe true (eVar 2) (eBin gPow true (eC (.int 10)) (eC (.int 18))))) (gPutIx 0 (oFz (eVar 2)) (eC (.int 0))) gNx [.io (encB ⟨b.cell, b.stir, b.idx + 1, b.ns⟩), m, .v (.fz (.int (nextC b))), .un, .un, .un, .un] =
      some (.nx, [.io (encB ⟨if 10 ^ 18 ≤ nextC b then nextC b else 0, b.stir, b.idx + 1, b.ns⟩), m, .v (.fz (.int (nextC b))), .un, .un, .un, .un]) := by
    have hp : okPow 10 18 = true := by decide
    by_cases hge : (10 : Int) ^ 18 ≤ nextC b
    · have hge' : (1000000000000000000 : Int) ≤ nextC b := hge
      rw [if_pos hge]
      simp [gGe, gI, gPow, hp, hge']
      exact ⟨rfl, rfl⟩
    · have hge' : ¬ (1000000000000000000 : Int) ≤ nextC b := hge
      rw [if_neg hge]
      simp [gGe, gI, gPow, hp, hge', hc]
  generalize hw : (if (10 : Int) ^ 18 ≤ nextC b then nextC b else 0) = cl at *
  have e1 : okMul b.stir 48271 = true := okMul_small (by have := h.s0; have := h.s1; exact Nat.lt_of_lt_of_le (by omega : b.stir.natAbs < 2 ^ 31) (Nat.pow_le_pow_right (by decide) (by decide))) (by decide)
  have e2 : okMul 7919 (b.idx + 1) = true := okMul_small (by decide) (by have := h.i0; exact Nat.lt_of_lt_of_le (by omega : (b.idx + 1).natAbs < 2 ^ 60) (Nat.pow_le_pow_right (by decide) (by decide)))
  have st4 : gSet 3 (eBin gAddX true (eBin gAddX true (eBin gMulX true (eBin gIx true (eVar 0) (eC (.int 1))) (eC (.int 48271))) (eBin gMod true (eCall (g1 gInt) (aCons true (eVar 2) aNil)) (eC (.int 2147483647)))) (eBin gMulX true (eC (.int 7919)) (eBin gIx true (eVar 0) (eC (.int 2))))) [.io (encB ⟨cl, b.stir, b.idx + 1, b.ns⟩), m, .v (.fz (.int (nextC b))), .un, .un, .un, .un] =
      some (.nx, [.io (encB ⟨cl, b.stir, b.idx + 1, b.ns⟩), m, .v (.fz (.int (nextC b))), .v (.fz (.int (b.stir * 48271 + nextC b % 2147483647 + 7919 * (b.idx + 1)))), .un, .un, .un]) := by
    have g1' : gIx (encB ⟨cl, b.stir, b.idx + 1, b.ns⟩) (.fz (.int 1)) = some (.fz (.int b.stir)) := rfl
    have g2' : gIx (encB ⟨cl, b.stir, b.idx + 1, b.ns⟩) (.fz (.int 2)) = some (.fz (.int (b.idx + 1))) := rfl
    simp [g1', g2', gMulX, e1, e2, gAddX, g1, gInt, gMod, gI]
  have st5 : ∀ z : Int, gPutIx 0 (eBin gMod true (eCall (g1 gInt) (aCons true (eVar 3) aNil)) (eC (.int 2147483647))) (eC (.int 1)) [.io (encB ⟨cl, b.stir, b.idx + 1, b.ns⟩), m, .v (.fz (.int (nextC b))), .v (.fz (.int z)), .un, .un, .un] =
      some (.nx, [.io (encB ⟨cl, z % 2147483647, b.idx + 1, b.ns⟩), m, .v (.fz (.int (nextC b))), .v (.fz (.int z)), .un, .un, .un]) := fun z => by
    simp [g1, gInt, gMod, gI]
    exact ⟨rfl, rfl⟩
  refine ⟨b.stir * 48271 + nextC b % 2147483647 + 7919 * (b.idx + 1), ?_⟩
  unfold mbA
  rw [x_gSeq, st1]
  simp only
  rw [x_gSeq, st2]
  simp only
  rw [x_gSeq, st3]
  simp only
  rw [x_gSeq, st4]
  simp only
  rw [st5]
  unfold refill
  rw [hw]
/-- behind the first statement of _law_take -/
def filled (b : Bag) : Bag := if b.cell = 0 then refill b else b
theorem filled_ok {b : Bag} (h : BgOk b) (hi : b.idx + 1 < 2 ^ 60) : BgOk (filled b) ∧ (filled b).idx ≤ b.idx + 1 := by
  unfold filled
  split
  · exact ⟨refill_ok h hi, Int.le_refl _⟩
  · exact ⟨h, by omega⟩
/-- _law_take: a value below many, the bag stays a bag -/
theorem take_run {b : Bag} (h : BgOk b) (hi : b.idx + 1 < 2 ^ 60) {many : Int} (h0 : 0 < many) (h1 : many < 2 ^ 60) :
    ∃ v b', m__law_take [encB b, .fz (.int many)] = some (.fz (.int v), [encB b', .fz (.int many)]) ∧ BgOk b' ∧ b'.idx ≤ b.idx + 1 ∧ 0 ≤ v ∧ v < many := by
  obtain ⟨f1, f2⟩ := filled_ok h hi
  -- the first statement
  have hg0 : gIx (encB b) (.fz (.int 0)) = some (.fz (.int b.cell)) := rfl
  have ht : bOf (eBin gEq true (eBin gIx true (eVar 0) (eC (.int 0))) (eC (.int 0))) [.io (encB b), .v (.fz (.int many)), .un, .un, .un, .un, .un] = some (b.cell == 0, [.io (encB b), .v (.fz (.int many)), .un, .un, .un, .un, .un]) := by
    simp [hg0, gEq]
  have s1 : ∃ z2 z3, gIf (bOf (eBin gEq true (eBin gIx true (eVar 0) (eC (.int 0))) (eC (.int 0)))) mbA gNx [.io (encB b), .v (.fz (.int many)), .un, .un, .un, .un, .un] = some (.nx, [.io (encB (filled b)), .v (.fz (.int many)), z2, z3, .un, .un, .un]) ∧ (∀ u, z2 ≠ .io u) ∧ (∀ u, z3 ≠ .io u) := by
    by_cases hc : b.cell = 0
    · obtain ⟨x3, e⟩ := refill_run h hi hc (m := .v (.fz (.int many)))
      refine ⟨.v (.fz (.int (nextC b))), .v (.fz (.int x3)), ?_, fun u => by simp, fun u => by simp⟩
      rw [x_gIf, ht, show (b.cell == 0) = true by simp [hc]]
      unfold filled
      rw [if_pos hc]
      exact e
    · refine ⟨.un, .un, ?_, fun u => by simp, fun u => by simp⟩
      rw [x_gIf, ht, show (b.cell == 0) = false by simp [hc]]
      unfold filled
      rw [if_neg hc]
      rfl
  obtain ⟨z2, z3, e1, hz2, hz3⟩ := s1
  generalize filled b = c at *
  have hc0 : gIx (encB c) (.fz (.int 0)) = some (.fz (.int c.cell)) := rfl
  have hc1 : gIx (encB c) (.fz (.int 1)) = some (.fz (.int c.stir)) := rfl
  have kd : ∀ i, okDiv i many = true := fun i => okDiv_small h0 (Nat.lt_of_lt_of_le (by omega : many.natAbs < 2 ^ 60) (Nat.pow_le_pow_right (by decide) (by decide)))
  by_cases hp : 0 < c.cell
  · -- out of the big cell
    refine ⟨c.cell % many, ⟨c.cell / many, c.stir, c.idx, c.ns⟩, ?_, ⟨Int.ediv_nonneg f1.c0 (by omega), f1.s0, f1.s1, f1.i0, f1.i1, f1.n0, f1.nl⟩, f2, Int.emod_nonneg _ (by omega), Int.emod_lt_of_pos _ h0⟩
    have hb2 : gIf (bOf (eBin gGt true (eBin gIx true (eVar 0) (eC (.int 0))) (eC (.int 0)))) (gSeq (gSet 4 (eBin gMod true (eCall (g1 gInt) (aCons true (eBin gIx true (eVar 0) (eC (.int 0))) aNil)) (eVar 1))) (gSeq (gPutIx 0 (eBin gDiv true (eCall (g1 gInt) (aCons true (eBin gIx true (eVar 0) (eC (.int 0))) aNil)) (eVar 1)) (eC (.int 0))) (gRet (oFz (eVar 4))))) gNx [.io (encB c), .v (.fz (.int many)), z2, z3, .un, .un, .un] =
        some (.rt (.fz (.int (c.cell % many))), [.io (encB ⟨c.cell / many, c.stir, c.idx, c.ns⟩), .v (.fz (.int many)), z2, z3, .v (.fz (.int (c.cell % many))), .un, .un]) := by
      have hput : gPutIx 0 (eBin gDiv true (eCall (g1 gInt) (aCons true (eBin gIx true (eVar 0) (eC (.int 0))) aNil)) (eVar 1)) (eC (.int 0)) [.io (encB c), .v (.fz (.int many)), z2, z3, .v (.fz (.int (c.cell % many))), .un, .un] =
          some (.nx, [.io (encB ⟨c.cell / many, c.stir, c.idx, c.ns⟩), .v (.fz (.int many)), z2, z3, .v (.fz (.int (c.cell % many))), .un, .un]) := by
        simp [hc0, g1, gInt, gDiv, gI, kd]
        exact ⟨rfl, rfl⟩
      simp [-x_gPutIx, hc0, gGt, gI, hp, g1, gInt, gMod, h0, hput]
    unfold m__law_take mb__law_take
    have e1' := e1
    unfold mbA at e1'
    rw [x_fnM]
    simp only [List.length_cons, List.length_nil, Nat.zero_add, Nat.reduceAdd, if_true]
    have hS : (List.map entry [encB b, OV.fz (PyData.int many)] ++ List.replicate (7 - 2) SV.un) = [.io (encB b), .v (.fz (.int many)), .un, .un, .un, .un, .un] := rfl
    rw [hS, x_gSeq, e1']
    simp only
    rw [x_gSeq, hb2]
    rfl
  · refine ⟨((c.stir + 1) * 39373 % 1000000007 * ((c.stir + 1) * 39373 % 1000000007) % 998244353 * 30011 % 998244353 / 7) % many, c, ?_, f1, f2, Int.emod_nonneg _ (by omega), Int.emod_lt_of_pos _ h0⟩
    have m1 : ∀ x : Int, 0 ≤ x % 1000000007 ∧ x % 1000000007 < 1000000007 := fun x => ⟨Int.emod_nonneg _ (by decide), Int.emod_lt_of_pos _ (by decide)⟩
    have m2 : ∀ x : Int, 0 ≤ x % 998244353 ∧ x % 998244353 < 998244353 := fun x => ⟨Int.emod_nonneg _ (by decide), Int.emod_lt_of_pos _ (by decide)⟩
    have small : ∀ x : Int, 0 ≤ x → x < 2 ^ 60 → x.natAbs < 2 ^ 1000 := fun x a0 a1 => Nat.lt_of_lt_of_le (by omega : x.natAbs < 2 ^ 60) (Nat.pow_le_pow_right (by decide) (by decide))
    have q1 : okMul (c.stir + 1) 39373 = true := okMul_small (small _ (by have := f1.s0; omega) (by have := f1.s1; omega)) (by decide)
    have q2 : ∀ x : Int, okMul (x % 1000000007) (x % 1000000007) = true := fun x => okMul_small (small _ (m1 x).1 (by have := (m1 x).2; omega)) (small _ (m1 x).1 (by have := (m1 x).2; omega))
    have q3 : ∀ x : Int, okMul (x % 998244353) 30011 = true := fun x => okMul_small (small _ (m2 x).1 (by have := (m2 x).2; omega)) (by decide)
    have q4 : ∀ x, okDiv x 7 = true := fun x => okDiv_small (by decide) (by decide)
    have hb2 : gIf (bOf (eBin gGt true (eBin gIx true (eVar 0) (eC (.int 0))) (eC (.int 0)))) (gSeq (gSet 4 (eBin gMod true (eCall (g1 gInt) (aCons true (eBin gIx true (eVar 0) (eC (.int 0))) aNil)) (eVar 1))) (gSeq (gPutIx 0 (eBin gDiv true (eCall (g1 gInt) (aCons true (eBin gIx true (eVar 0) (eC (.int 0))) aNil)) (eVar 1)) (eC (.int 0))) (gRet (oFz (eVar 4))))) gNx [.io (encB c), .v (.fz (.int many)), z2, z3, .un, .un, .un] =
        some (.nx, [.io (encB c), .v (.fz (.int many)), z2, z3, .un, .un, .un]) := by
      simp [hc0, gGt, gI, hp]
    unfold m__law_take mb__law_take
    have e1' := e1
    unfold mbA at e1'
    rw [x_fnM]
    simp only [List.length_cons, List.length_nil, Nat.zero_add, Nat.reduceAdd, if_true]
    have hS : (List.map entry [encB b, OV.fz (PyData.int many)] ++ List.replicate (7 - 2) SV.un) = [.io (encB b), .v (.fz (.int many)), .un, .un, .un, .un, .un] := rfl
    rw [hS, x_gSeq, e1']
    simp only
    rw [x_gSeq, hb2]
    simp only
    simp [hc1, gAddX, gMulX, q1, q2, q3, g1, gInt, gMod, gI, gDiv, q4, h0]
    exact ⟨rfl, rfl⟩
end PD
set_option Elab.async false
set_option linter.all false
set_option maxRecDepth 100000
set_option maxHeartbeats 4000000
set_option exponentiation.threshold 5000
namespace PD
open PySem L2 PD.G
@[simp] theorem encB_entry (b : Bag) : entry (encB b) = .io (encB b) := id rfl
@[simp] theorem encB_fz (b : Bag) : (encB b).isFz = false := id rfl
@[simp] theorem io1 (d : PyData) : ioAt [none, some d] = some 0 := id rfl
@[simp] theorem svio (o : OV) : svOv (.io o) = some (o, true) := id rfl
@[simp] theorem mkio (o : OV) : mkSv true o = .io o := id rfl
@[simp] theorem isN_n : isN (.fz .none) = true := id rfl
@[simp] theorem isN_i (x : Int) : isN (.fz (.int x)) = false := id rfl
theorem ix_in {xs : List PyData} {v : Int} (v0 : 0 ≤ v) (v1 : v < (xs.length : Int)) : ∃ x, gIx (.fz (.list xs)) (.fz (.int v)) = some (.fz x) ∧ x ∈ xs := by
  obtain ⟨k, rfl⟩ := Int.eq_ofNat_of_zero_le v0
  have hk : k < xs.length := by omega
  refine ⟨xs[k], ?_, List.getElem_mem hk⟩
  show (atI xs (k : Int)).map OV.fz = _
  have hn : ixN xs.length (k : Int) = some k := by
    unfold ixN
    simp [hk]
  simp [atI, hn, hk]
@[simp] theorem encB_io (b : Bag) (r : List OV) (i : Nat) (S : SS) : ioOk i (encB b :: r) S = ((match S[i]? with
    | some (.io u) => !u.isFz
    | _ => false) && ioOk (i + 1) r S) := id rfl
@[simp] theorem encB_outs (b : Bag) (r : List OV) (i : Nat) (S : SS) : outs i (encB b :: r) S = (match S[i]? with
    | some (.io u) => u
    | _ => encB b) :: outs (i + 1) r S := id rfl
/-- what a draw of a value gives: one of the things -/
theorem some_run {b : Bag} (h : BgOk b) (hi : b.idx + 1 < 2 ^ 60) {xs : List PyData} (hx : xs ≠ []) (hl : xs.length < 2 ^ 60) :
    ∃ x b', m__law_some [encB b, .fz (.list xs)] = some (.fz x, [encB b', .fz (.list xs)]) ∧ BgOk b' ∧ b'.idx ≤ b.idx + 1 ∧ x ∈ xs := by
  have hp : (0 : Int) < (xs.length : Int) := by cases xs with | nil => exact absurd rfl hx | cons _ _ => simp
  obtain ⟨v, b', e, o, hx', v0, v1⟩ := take_run h hi (many := (xs.length : Int)) hp (by exact_mod_cast hl)
  unfold m__law_some mb__law_some
  rw [x_fnM]
  obtain ⟨x, ex, mx⟩ := ix_in v0 v1
  refine ⟨x, b', ?_, o, hx', mx⟩
  simp [e, g1, gLen, ex]
theorem within_run {b : Bag} (h : BgOk b) (hi : b.idx + 2 < 2 ^ 60) {lo hi' : Int} (h0 : -1000 ≤ lo) (h1 : lo ≤ hi') (h2 : hi' ≤ 1000) :
    ∃ v b', m__law_within [encB b, .fz (.int lo), .fz (.int hi')] = some (.fz (.int v), [encB b', .fz (.int lo), .fz (.int hi')]) ∧ BgOk b' ∧ b'.idx ≤ b.idx + 1 ∧ lo ≤ v ∧ v ≤ hi' := by
  obtain ⟨v, b', e, o, hx', v0, v1⟩ := take_run h (by omega) (many := hi' - lo + 1) (by omega) (by omega)
  unfold m__law_within mb__law_within
  rw [x_fnM]
  refine ⟨lo + v, b', ?_, o, hx', by omega, by omega⟩
  simp [e, gIsN, gAddX, gSub, gI]
end PD
set_option Elab.async false
set_option linter.all false
set_option maxRecDepth 100000
set_option maxHeartbeats 4000000
set_option exponentiation.threshold 5000
namespace PD
open PySem L2 PD.G
/-- a factor: a small numerator over a small denominator -/
theorem factor_run {b : Bag} (h : BgOk b) (hi : b.idx + 2 < 2 ^ 60) :
    ∃ (n d : Int) (b' : Bag), m__law_factor [encB b] = some (.fz (encR (mkRat n d.toNat)), [encB b']) ∧ BgOk b' ∧ b'.idx ≤ b.idx + 2 ∧
      n ∈ [(1 : Int), -1, 2, 3, -2, 5, -7, 1, 1] ∧ d ∈ [(1 : Int), 1, 1, 2, 3, 10] := by
  obtain ⟨x, b1, e1, o1, i1, m1⟩ := some_run h (by omega) (xs := [.int 1, .int (-1), .int 2, .int 3, .int (-2), .int 5, .int (-7), .int 1, .int 1]) (by simp) (by decide)
  obtain ⟨y, b2, e2, o2, i2, m2⟩ := some_run o1 (by omega) (xs := [.int 1, .int 1, .int 1, .int 2, .int 3, .int 10]) (by simp) (by decide)
  obtain ⟨n, rfl, hn⟩ : ∃ n : Int, x = .int n ∧ n ∈ [(1 : Int), -1, 2, 3, -2, 5, -7, 1, 1] := by
    have : x ∈ [(1 : Int), -1, 2, 3, -2, 5, -7, 1, 1].map PyData.int := m1
    obtain ⟨n, hn, rfl⟩ := List.mem_map.1 this
    exact ⟨n, rfl, hn⟩
  obtain ⟨d, rfl, hd⟩ : ∃ d : Int, y = .int d ∧ d ∈ [(1 : Int), 1, 1, 2, 3, 10] := by
    have : y ∈ [(1 : Int), 1, 1, 2, 3, 10].map PyData.int := m2
    obtain ⟨n, hn, rfl⟩ := List.mem_map.1 this
    exact ⟨n, rfl, hn⟩
  have n1 : n.natAbs ≤ 7 := by
    simp only [List.mem_cons, List.not_mem_nil, or_false] at hn
    omega
  have d1 : 0 < d ∧ d.natAbs ≤ 10 := by
    simp only [List.mem_cons, List.not_mem_nil, or_false] at hd
    omega
  have h7 : (7 : Nat) < 2 ^ 900 := Nat.lt_of_lt_of_le (by decide : 7 < 2 ^ 4) (Nat.pow_le_pow_right (by decide) (by decide))
  have h10 : (10 : Nat) < 2 ^ 900 := Nat.lt_of_lt_of_le (by decide : 10 < 2 ^ 4) (Nat.pow_le_pow_right (by decide) (by decide))
  have ef := fraction_run d1.1 (Nat.lt_of_le_of_lt n1 h7) (Nat.lt_of_le_of_lt d1.2 h10)
  refine ⟨n, d, b2, ?_, o2, by omega, hn, hd⟩
  unfold m__law_factor mb__law_factor
  rw [x_fnM]
  have g9 : ∀ x0 x1 x2 x3 x4 x5 x6 x7 x8 : PyData, gLst' [.fz x0, .fz x1, .fz x2, .fz x3, .fz x4, .fz x5, .fz x6, .fz x7, .fz x8] = some (.ol [.fz x0, .fz x1, .fz x2, .fz x3, .fz x4, .fz x5, .fz x6, .fz x7, .fz x8]) := fun _ _ _ _ _ _ _ _ _ => rfl
  have g6 : ∀ x0 x1 x2 x3 x4 x5 : PyData, gLst' [.fz x0, .fz x1, .fz x2, .fz x3, .fz x4, .fz x5] = some (.ol [.fz x0, .fz x1, .fz x2, .fz x3, .fz x4, .fz x5]) := fun _ _ _ _ _ _ => rfl
  have r9 : ∀ x0 x1 x2 x3 x4 x5 x6 x7 x8 : PyData, (OV.ol [.fz x0, .fz x1, .fz x2, .fz x3, .fz x4, .fz x5, .fz x6, .fz x7, .fz x8]).erase = .list [x0, x1, x2, x3, x4, x5, x6, x7, x8] := fun _ _ _ _ _ _ _ _ _ => rfl
  have r6 : ∀ x0 x1 x2 x3 x4 x5 : PyData, (OV.ol [.fz x0, .fz x1, .fz x2, .fz x3, .fz x4, .fz x5]).erase = .list [x0, x1, x2, x3, x4, x5] := fun _ _ _ _ _ _ => rfl
  have cf : ∀ x : PyData, (OV.fz x).erase = x := fun _ => rfl
  have gc : gCallF m__law_fraction [.fz (.int n), .fz (.int d)] = some (.fz (encR (mkRat n d.toNat))) := by
    have ha : allFz [OV.fz (PyData.int n), OV.fz (PyData.int d)] = some [.int n, .int d] := rfl
    unfold gCallF
    rw [ha]
    simp [ef]
  simp [e1, e2, gNeg, g9, g6, r9, r6, cf, gc]
end PD
set_option Elab.async false
set_option linter.all false
set_option maxRecDepth 100000
set_option maxHeartbeats 4000000
set_option exponentiation.threshold 5000
namespace PD
open PySem L2 PD.G
theorem factor_ok : ∀ n ∈ [(1 : Int), -1, 2, 3, -2, 5, -7, 1, 1], ∀ d ∈ [(1 : Int), 1, 1, 2, 3, 10], mkRat n d.toNat ≠ 0 ∧ (mkRat n d.toNat).den ∣ 30 ∧ (nz 30 (mkRat n d.toNat)).natAbs ≤ 210 := by
  decide +kernel
theorem num_step {b : Bag} (h : BgOk b) (hi : b.idx + 3 < 2 ^ 60) (acc : Tms) (hl : acc.length < sizeLine) (o : Int) (h0 : -1000 ≤ o) (h1 : o ≤ 1000) (s1 s2 s5 : SV) :
    ∃ (q : Rat) (o' : Int) (b' : Bag), fb__law_number_1 [.io (encB b), s1, s2, .v (.ol ((acc.map encT).map OV.fz)), .v (.fz (.int o)), s5] =
        some (.nx, [.io (encB b'), s1, s2, .v (.ol (((acc ++ [(o, q)]).map encT).map OV.fz)), .v (.fz (.int o')), s5]) ∧ BgOk b' ∧ b'.idx ≤ b.idx + 3 ∧
      o < o' ∧ o' ≤ o + 3 ∧ q ≠ 0 ∧ q.den ∣ 30 ∧ (nz 30 q).natAbs ≤ 210 := by
  obtain ⟨n, d, b1, e1, o1, i1, m1, m2⟩ := factor_run h (by omega)
  obtain ⟨v, b2, e2, o2, i2, v0, v1⟩ := take_run o1 (by omega) (many := 3) (by decide) (by decide)
  obtain ⟨q1, q2, q3⟩ := factor_ok n m1 d m2
  refine ⟨mkRat n d.toNat, o + (1 + v), b2, ?_, o2, by omega, by omega, by omega, q1, q2, q3⟩
  have gt2 : ∀ x y : PyData, gTup' [.fz x, .fz y] = some (.fz (.tuple [x, y])) := fun _ _ => rfl
  have hl' : ((acc.map encT).map OV.fz).length < sizeLine := by simpa using hl
  have ir : ioAt [none] = some 0 := rfl
  unfold fb__law_number_1
  have k1 : ∀ (z x : SV) (xs : List OV), isOl 3 [z, s1, s2, .v (.ol xs), x, s5] = true := fun _ _ _ => rfl
  have k2 : ∀ (z x : SV) (xs : List OV), getS 3 [z, s1, s2, .v (.ol xs), x, s5] = some (.ol xs) := fun _ _ _ => rfl
  have k3 : ∀ (z x : SV) (xs ys : List OV), modS 3 (.ol ys) [z, s1, s2, .v (.ol xs), x, s5] = [z, s1, s2, .v (.ol ys), x, s5] := fun _ _ _ _ => rfl
  simp [e1, e2, gAddX, gt2, hl, ir, encT, k1, k2, k3]
end PD
set_option Elab.async false
set_option linter.all false
set_option maxRecDepth 100000
set_option maxHeartbeats 4000000
set_option exponentiation.threshold 5000
namespace PD
open PySem L2 PD.G
/-- what stands gathered of a drawn number -/
structure NumI (lo o : Int) (acc : Tms) : Prop where
  asc : (acc.map (·.1)).Pairwise (· < ·)
  rg : ∀ t ∈ acc, lo ≤ t.1 ∧ t.1 < o
  nz : ∀ t ∈ acc, t.2 ≠ 0
  dv : ∀ t ∈ acc, t.2.den ∣ 30
  le : l1 30 acc ≤ 210 * acc.length
theorem NumI.nil {lo o : Int} : NumI lo o [] := by
  refine ⟨List.Pairwise.nil, fun _ h => (nomatch h), fun _ h => (nomatch h), fun _ h => (nomatch h), ?_⟩
  simp [l1]
theorem NumI.add {lo o o' : Int} {acc : Tms} (h : NumI lo o acc) (hlo : lo ≤ o) (ho : o < o') {q : Rat} (q1 : q ≠ 0) (q2 : q.den ∣ 30) (q3 : (PD.nz 30 q).natAbs ≤ 210) : NumI lo o' (acc ++ [(o, q)]) := by
  refine ⟨?_, ?_, ?_, ?_, ?_⟩
  · rw [List.map_append, List.pairwise_append]
    refine ⟨h.asc, List.pairwise_singleton _ _, fun x hx y hy => ?_⟩
    obtain ⟨t, ht, rfl⟩ := List.mem_map.1 hx
    simp at hy
    subst hy
    exact (h.rg t ht).2
  · intro t ht
    rcases List.mem_append.1 ht with ht | ht
    · have := h.rg t ht; omega
    · simp at ht; subst ht; exact ⟨hlo, ho⟩
  · intro t ht
    rcases List.mem_append.1 ht with ht | ht
    · exact h.nz t ht
    · simp at ht; subst ht; exact q1
  · intro t ht
    rcases List.mem_append.1 ht with ht | ht
    · exact h.dv t ht
    · simp at ht; subst ht; exact q2
  · rw [l1_append, l1_cons]
    have := h.le
    have e : l1 30 ([] : Tms) = 0 := by simp [l1]
    simp only [List.length_append, List.length_cons, List.length_nil, e]
    omega
theorem num_loop (s1 s2 : SV) (lo : Int) (hlo : -1000 ≤ lo) : ∀ (ds : List PyData) (b : Bag) (acc : Tms) (o : Int), BgOk b → b.idx + 3 * ds.length < 2 ^ 60 → acc.length + ds.length ≤ 100 → lo ≤ o → o + 3 * ds.length ≤ 1000 → NumI lo o acc →
    ∃ (b' : Bag) (acc' : Tms) (o' : Int), forL [5] fg__law_number_1 fb__law_number_1 ds [.io (encB b), s1, s2, .v (.ol ((acc.map encT).map OV.fz)), .v (.fz (.int o)), .un] =
        some (.nx, [.io (encB b'), s1, s2, .v (.ol ((acc'.map encT).map OV.fz)), .v (.fz (.int o')), .un]) ∧ BgOk b' ∧ b'.idx ≤ b.idx + 3 * ds.length ∧
      NumI lo o' acc' ∧ acc'.length = acc.length + ds.length ∧ o' ≤ o + 3 * ds.length
  | [], b, acc, o, hb, hi, hl, h0, h1, hN => ⟨b, acc, o, by simp [forL], hb, by simp, hN, by simp, by simp⟩
  | d :: ds, b, acc, o, hb, hi, hl, h0, h1, hN => by
    simp only [List.length_cons] at hi hl h1 ⊢
    have hsz : acc.length < sizeLine := Nat.lt_of_lt_of_le (by omega : acc.length < 101) (by decide)
    obtain ⟨q, o1, b1, e1, hb1, i1, l1, l2, q1, q2, q3⟩ := num_step hb (by omega) acc hsz o (by omega) (by omega) s1 s2 (.v (.fz d))
    obtain ⟨b', acc', o', e2, hb2, i2, hN2, ln, lo2⟩ := num_loop s1 s2 lo hlo ds b1 (acc ++ [(o, q)]) o1 hb1 (by omega) (by simp; omega) (by omega) (by omega) (hN.add h0 l1 q1 q2 q3)
    refine ⟨b', acc', o', ?_, hb2, by omega, hN2, by rw [ln]; simp; omega, by omega⟩
    have hg : fg__law_number_1 d [.io (encB b), s1, s2, .v (.ol ((acc.map encT).map OV.fz)), .v (.fz (.int o)), .un] = some [.io (encB b), s1, s2, .v (.ol ((acc.map encT).map OV.fz)), .v (.fz (.int o)), .v (.fz d)] := rfl
    rw [forL_cons hg e1]
    exact e2
theorem NumI.nb {lo o : Int} {acc : Tms} {R : Int} (h : NumI lo o acc) (h1 : -R ≤ lo) (h2 : o ≤ R + 1) (hl : acc.length ≤ 10) : NB 30 2100 R acc :=
  ⟨⟨h.asc, h.nz⟩, ⟨h.dv, Nat.le_trans h.le (by omega), fun t ht => by have := h.rg t ht; omega⟩⟩
/-- a drawn number: at most `most` terms, none below the order -/
theorem number_run {b : Bag} (h : BgOk b) {most : Int} (m0 : 0 < most) (m1 : most ≤ 8) (hi : b.idx + 40 < 2 ^ 60) {o : Int} (h0 : -900 ≤ o) (h1 : o ≤ 900) :
    ∃ (a : Tms) (b' : Bag) (o' : Int), m__law_number [encB b, .fz (.int o), .fz (.int most)] = some (.fz (encN a), [encB b', .fz (.int o), .fz (.int most)]) ∧ BgOk b' ∧ b'.idx ≤ b.idx + 25 ∧
      NumI o o' a ∧ o' ≤ o + 24 ∧ 1 ≤ a.length ∧ (a.length : Int) ≤ most := by
  obtain ⟨v, b1, e1, o1, i1, v0, v1⟩ := take_run h (by omega) (many := most) m0 (by omega)
  have hds : (rangeD 0 (1 + v).toNat).length = (1 + v).toNat := by simp [rangeD]
  obtain ⟨b', a, o', e2, hb2, i2, hN, ln, lo2⟩ := num_loop (.v (.fz (.int o))) (.v (.fz (.int most))) o (by omega) (rangeD 0 (1 + v).toNat) b1 [] o o1 (by omega) (by simp; omega) (Int.le_refl _) (by omega) NumI.nil
  rw [hds] at i2 ln lo2
  refine ⟨a, b', o', ?_, hb2, by omega, hN, by omega, by simp at ln; omega, by simp at ln; omega⟩
  have hr : okR (1 + v) = true := by
    unfold okR
    apply decide_eq_true
    omega
  unfold m__law_number mb__law_number
  rw [x_fnM]
  have hs : seqX (.ol (a.map (OV.fz ∘ encT))) = some (a.map encT) := by
    rw [← List.map_map]
    exact allFz_fz _
  have gl : gLst' [] = some (.ol []) := rfl
  have e2' : forL [5] fg__law_number_1 fb__law_number_1 (rangeD 0 (1 + v).toNat) [.io (encB b1), .v (.fz (.int o)), .v (.fz (.int most)), .v (.ol []), .v (.fz (.int o)), .un] = _ := e2
  simp [e1, gIsN, gl, gAddX, hr, e2', encN, g1, gTuple, hs]
end PD
set_option Elab.async false
set_option linter.all false
set_option maxRecDepth 100000
set_option maxHeartbeats 4000000
set_option exponentiation.threshold 5000
namespace PD
open PySem L2 PD.G
theorem number_none {b : Bag} {most : Int} : m__law_number [encB b, .fz .none, .fz (.int most)] = some (.fz (encN []), [encB b, .fz .none, .fz (.int most)]) := by
  have gt : gTup' [] = some (.fz (.tuple [])) := rfl
  unfold m__law_number mb__law_number
  rw [x_fnM]
  simp [gIsN, gt, encN]
theorem within_open {b : Bag} (h : BgOk b) (hi : b.idx + 3 < 2 ^ 60) {lo : Int} (h0 : -1000 ≤ lo) (h1 : lo ≤ 1000) :
    ∃ (v : Option Int) (b' : Bag), m__law_within [encB b, .fz (.int lo), .fz .none] = some (.fz (encO v), [encB b', .fz (.int lo), .fz .none]) ∧ BgOk b' ∧ b'.idx ≤ b.idx + 2 ∧ ∀ x, v = some x → lo ≤ x ∧ x ≤ lo + 4 := by
  obtain ⟨v, b1, e1, o1, i1, v0, v1⟩ := take_run h (by omega) (many := 4) (by decide) (by decide)
  by_cases hv : v = 0
  · subst hv
    refine ⟨none, b1, ?_, o1, by omega, fun x hx => (nomatch hx)⟩
    unfold m__law_within mb__law_within
    rw [x_fnM]
    simp [e1, gIsN, gEq, encO]
  · obtain ⟨u, b2, e2, o2, i2, u0, u1⟩ := take_run o1 (by omega) (many := 5) (by decide) (by decide)
    refine ⟨some (lo + u), b2, ?_, o2, by omega, fun x hx => by cases hx; omega⟩
    unfold m__law_within mb__law_within
    rw [x_fnM]
    have hv' : (v == 0) = false := by simp [hv]
    simp [e1, e2, hv', gIsN, gEq, encO, gAddX]
theorem bounds_run {b : Bag} (h : BgOk b) (hi : b.idx + 2 < 2 ^ 60) {u : Int} (h0 : -1000 ≤ u) (h1 : u ≤ 1000) :
    ∃ (g : Option Int) (b' : Bag), m__law_bounds [encB b, .fz (.int u)] = some (.fz (.tuple [.int u, encO g]), [encB b', .fz (.int u)]) ∧ BgOk b' ∧ b'.idx ≤ b.idx + 1 ∧ ∀ x, g = some x → u ≤ x ∧ x ≤ u + 3 := by
  obtain ⟨x, b1, e1, o1, i1, m1⟩ := some_run h (by omega) (xs := [.int u, .int u, .int (u + 1), .int (u + 3), .none]) (by simp) (by simp)
  obtain ⟨g, hg, hb⟩ : ∃ g : Option Int, x = encO g ∧ ∀ y, g = some y → u ≤ y ∧ y ≤ u + 3 := by
    simp only [List.mem_cons, List.not_mem_nil, or_false] at m1
    rcases m1 with rfl | rfl | rfl | rfl | rfl
    · exact ⟨some u, rfl, fun y hy => by cases hy; omega⟩
    · exact ⟨some u, rfl, fun y hy => by cases hy; omega⟩
    · exact ⟨some (u + 1), rfl, fun y hy => by cases hy; omega⟩
    · exact ⟨some (u + 3), rfl, fun y hy => by cases hy; omega⟩
    · exact ⟨none, rfl, fun y hy => (nomatch hy)⟩
  subst hg
  refine ⟨g, b1, ?_, o1, i1, hb⟩
  have g5 : ∀ x0 x1 x2 x3 x4 : PyData, gLst' [.fz x0, .fz x1, .fz x2, .fz x3, .fz x4] = some (.ol [.fz x0, .fz x1, .fz x2, .fz x3, .fz x4]) := fun _ _ _ _ _ => rfl
  have gt2 : ∀ x y : PyData, gTup' [.fz x, .fz y] = some (.fz (.tuple [x, y])) := fun _ _ => rfl
  unfold m__law_bounds mb__law_bounds
  rw [x_fnM]
  simp [e1, gAddX, g5, gt2]
end PD
set_option Elab.async false
set_option linter.all false
set_option maxRecDepth 100000
set_option maxHeartbeats 4000000
set_option exponentiation.threshold 5000
namespace PD
open PySem L2 PD.G
theorem someI_run {b : Bag} (h : BgOk b) (hi : b.idx + 1 < 2 ^ 60) {is : List Int} (hx : is ≠ []) (hl : is.length ≤ 100) :
    ∃ (x : Int) (b' : Bag), m__law_some [encB b, .fz (.list (is.map PyData.int))] = some (.fz (.int x), [encB b', .fz (.list (is.map PyData.int))]) ∧ BgOk b' ∧ b'.idx ≤ b.idx + 1 ∧ x ∈ is := by
  obtain ⟨x, b1, e1, o1, i1, m1⟩ := some_run h hi (xs := is.map PyData.int) (by simpa using hx) (by rw [List.length_map]; omega)
  obtain ⟨n, hn, rfl⟩ := List.mem_map.1 m1
  exact ⟨n, b1, e1, o1, i1, hn⟩
theorem any_side_run {b : Bag} (h : BgOk b) (hi : b.idx + 5 < 2 ^ 60) {many : Int} (h0 : 0 < many) (h1 : many ≤ 100) :
    ∃ (s : Side) (b' : Bag), m__law_any_side [encB b, .fz (.int many)] = some (.fz (encS s), [encB b', .fz (.int many)]) ∧ BgOk b' ∧ b'.idx ≤ b.idx + 3 ∧
      0 ≤ s.1 ∧ s.1 < many ∧ -4 ≤ s.2.1 ∧ s.2.1 ≤ 7 ∧ ∀ x, s.2.2 = some x → s.2.1 ≤ x ∧ x ≤ s.2.1 + 3 := by
  obtain ⟨v, b1, e1, o1, i1, v0, v1⟩ := take_run h (by omega) (many := many) h0 (by omega)
  obtain ⟨u, b2, e2, o2, i2, m2⟩ := someI_run o1 (by omega) (is := [0, 0, 1, 2, -1, 3, -4, 7]) (by simp) (by simp)
  have hu : -4 ≤ u ∧ u ≤ 7 := by
    simp only [List.mem_cons, List.not_mem_nil, or_false] at m2
    omega
  obtain ⟨g, b3, e3, o3, i3, hg⟩ := bounds_run o2 (by omega) (u := u) (by omega) (by omega)
  refine ⟨(v, u, g), b3, ?_, o3, by omega, v0, v1, hu.1, hu.2, hg⟩
  have e2' : m__law_some [encB b1, .fz (.list [.int 0, .int 0, .int 1, .int 2, .int (-1), .int 3, .int (-4), .int 7])] = some (.fz (.int u), [encB b2, .fz (.list [.int 0, .int 0, .int 1, .int 2, .int (-1), .int 3, .int (-4), .int 7])]) := e2
  have g8 : ∀ x0 x1 x2 x3 x4 x5 x6 x7 : PyData, gLst' [.fz x0, .fz x1, .fz x2, .fz x3, .fz x4, .fz x5, .fz x6, .fz x7] = some (.ol [.fz x0, .fz x1, .fz x2, .fz x3, .fz x4, .fz x5, .fz x6, .fz x7]) := fun _ _ _ _ _ _ _ _ => rfl
  have gt1 : ∀ x : PyData, gTup' [.fz x] = some (.fz (.tuple [x])) := fun _ => rfl
  have z : (1 : Nat) + 2 ≤ sizeLine := by decide
  have ad : ∀ x y z : PyData, gAddX (.fz (.tuple [x])) (.fz (.tuple [y, z])) = some (.fz (.tuple [x, y, z])) := fun _ _ _ => rfl
  unfold m__law_any_side mb__law_any_side
  rw [x_fnM]
  simp [e1, e2', e3, g8, gt1, ad, encS, gNeg]
end PD
set_option Elab.async false
set_option linter.all false
set_option maxRecDepth 100000
set_option maxHeartbeats 4000000
set_option exponentiation.threshold 5000
namespace PD
open PySem L2 PD.G
/-- what a drawn number at an order is, the order given or not -/
theorem within_any {b : Bag} (h : BgOk b) (hi : b.idx + 3 < 2 ^ 60) {lo : Int} (h0 : -100 ≤ lo) (h1 : lo ≤ 100) {g : Option Int} (hg : ∀ x, g = some x → lo ≤ x ∧ x ≤ lo + 50) :
    ∃ (v : Option Int) (b' : Bag), m__law_within [encB b, .fz (.int lo), .fz (encO g)] = some (.fz (encO v), [encB b', .fz (.int lo), .fz (encO g)]) ∧ BgOk b' ∧ b'.idx ≤ b.idx + 2 ∧ ∀ x, v = some x → lo ≤ x ∧ x ≤ lo + 50 := by
  cases g with
  | none =>
    obtain ⟨v, b', e, o, i, hv⟩ := within_open h hi (lo := lo) (by omega) (by omega)
    exact ⟨v, b', e, o, i, fun x hx => by have := hv x hx; omega⟩
  | some y =>
    have := hg y rfl
    obtain ⟨v, b', e, o, i, v0, v1⟩ := within_run h (by omega) (lo := lo) (hi' := y) (by omega) (by omega) (by omega)
    exact ⟨some v, b', e, o, by omega, fun x hx => by cases hx; omega⟩
theorem number_any {b : Bag} (h : BgOk b) (hi : b.idx + 40 < 2 ^ 60) {v : Option Int} (hv : ∀ x, v = some x → -100 ≤ x ∧ x ≤ 150) :
    ∃ (a : Tms) (b' : Bag), m__law_number [encB b, .fz (encO v), .fz (.int 3)] = some (.fz (encN a), [encB b', .fz (encO v), .fz (.int 3)]) ∧ BgOk b' ∧ b'.idx ≤ b.idx + 25 ∧ NB 30 7000 200 a := by
  cases v with
  | none =>
    refine ⟨[], b, number_none, h, by omega, ⟨Cn.nil, Bd.nil⟩⟩
  | some o =>
    have := hv o rfl
    obtain ⟨a, b', o', e, hb, i, hN, l1, l2, l3⟩ := number_run h (most := 3) (by decide) (by decide) hi (o := o) (by omega) (by omega)
    have hnb := hN.nb (R := 200) (by omega) (by omega) (by omega)
    exact ⟨a, b', e, hb, i, ⟨hnb.cn, hnb.bd.mono (by decide) (Int.le_refl _)⟩⟩
end PD
set_option Elab.async false
set_option linter.all false
set_option maxRecDepth 100000
set_option maxHeartbeats 4000000
set_option exponentiation.threshold 5000
namespace PD
open PySem L2 PD.G
theorem at_run {b : Bag} (h : BgOk b) (hi : b.idx + 2 < 2 ^ 60) :
    ∃ (n d : Int) (b' : Bag), m__law_at_number [encB b] = some (.fz (encR (mkRat n d.toNat)), [encB b']) ∧ BgOk b' ∧ b'.idx ≤ b.idx + 2 ∧
      n ∈ [(0 : Int), 1, 2, 3, -1, 5, -3, 7, 4, -7] ∧ d ∈ [(1 : Int), 2, 1, 3, 1, 4] := by
  obtain ⟨n, b1, e1, o1, i1, hn⟩ := someI_run h (by omega) (is := [0, 1, 2, 3, -1, 5, -3, 7, 4, -7]) (by simp) (by simp)
  obtain ⟨d, b2, e2, o2, i2, hd⟩ := someI_run o1 (by omega) (is := [1, 2, 1, 3, 1, 4]) (by simp) (by simp)
  have n1 : n.natAbs ≤ 7 := by
    simp only [List.mem_cons, List.not_mem_nil, or_false] at hn
    omega
  have d1 : 0 < d ∧ d.natAbs ≤ 10 := by
    simp only [List.mem_cons, List.not_mem_nil, or_false] at hd
    omega
  have h7 : (7 : Nat) < 2 ^ 900 := Nat.lt_of_lt_of_le (by decide : 7 < 2 ^ 4) (Nat.pow_le_pow_right (by decide) (by decide))
  have h10 : (10 : Nat) < 2 ^ 900 := Nat.lt_of_lt_of_le (by decide : 10 < 2 ^ 4) (Nat.pow_le_pow_right (by decide) (by decide))
  have ef := fraction_run d1.1 (Nat.lt_of_le_of_lt n1 h7) (Nat.lt_of_le_of_lt d1.2 h10)
  refine ⟨n, d, b2, ?_, o2, by omega, hn, hd⟩
  have e1' : m__law_some [encB b, .fz (.list [.int 0, .int 1, .int 2, .int 3, .int (-1), .int 5, .int (-3), .int 7, .int 4, .int (-7)])] = some (.fz (.int n), [encB b1, .fz (.list [.int 0, .int 1, .int 2, .int 3, .int (-1), .int 5, .int (-3), .int 7, .int 4, .int (-7)])]) := e1
  have e2' : m__law_some [encB b1, .fz (.list [.int 1, .int 2, .int 1, .int 3, .int 1, .int 4])] = some (.fz (.int d), [encB b2, .fz (.list [.int 1, .int 2, .int 1, .int 3, .int 1, .int 4])]) := e2
  have g10 : ∀ x0 x1 x2 x3 x4 x5 x6 x7 x8 x9 : PyData, gLst' [.fz x0, .fz x1, .fz x2, .fz x3, .fz x4, .fz x5, .fz x6, .fz x7, .fz x8, .fz x9] = some (.ol [.fz x0, .fz x1, .fz x2, .fz x3, .fz x4, .fz x5, .fz x6, .fz x7, .fz x8, .fz x9]) := fun _ _ _ _ _ _ _ _ _ _ => rfl
  have g6 : ∀ x0 x1 x2 x3 x4 x5 : PyData, gLst' [.fz x0, .fz x1, .fz x2, .fz x3, .fz x4, .fz x5] = some (.ol [.fz x0, .fz x1, .fz x2, .fz x3, .fz x4, .fz x5]) := fun _ _ _ _ _ _ => rfl
  have gc : gCallF m__law_fraction [.fz (.int n), .fz (.int d)] = some (.fz (encR (mkRat n d.toNat))) := by
    have ha : allFz [OV.fz (PyData.int n), OV.fz (PyData.int d)] = some [.int n, .int d] := rfl
    unfold gCallF
    rw [ha]
    simp [ef]
  unfold m__law_at_number mb__law_at_number
  rw [x_fnM]
  simp [e1', e2', gNeg, g10, g6, gc]
end PD
set_option Elab.async false
set_option linter.all false
set_option maxRecDepth 100000
set_option maxHeartbeats 4000000
set_option exponentiation.threshold 5000
namespace PD
open PySem L2 PD.G
/-- one number of a telling -/
theorem tell_side {b : Bag} (h : BgOk b) (hi : b.idx + 50 < 2 ^ 60) {lo : Int} (h0 : -100 ≤ lo) (h1 : lo ≤ 100) {g : Option Int} (hg : ∀ x, g = some x → lo ≤ x ∧ x ≤ lo + 50) (s1 s2 s3 s4 s5 s6 s7 : SV) :
    ∃ (a : Tms) (b' : Bag), ce__law_telling_1 [.io (encB b), s1, s2, s3, s4, s5, s6, s7, .v (.fz (.int lo)), .v (.fz (encO g))] = some (.fz (encN a), [.io (encB b'), s1, s2, s3, s4, s5, s6, s7, .v (.fz (.int lo)), .v (.fz (encO g))]) ∧ BgOk b' ∧ b'.idx ≤ b.idx + 27 ∧ NB 30 7000 200 a := by
  obtain ⟨v, b1, e1, o1, i1, hv⟩ := within_any h (by omega) h0 h1 hg
  obtain ⟨a, b2, e2, o2, i2, hn⟩ := number_any o1 (by omega) (v := v) (fun x hx => by have := hv x hx; omega)
  refine ⟨a, b2, ?_, o2, by omega, hn⟩
  have io2 : ∀ x y : PyData, ioAt [none, some x, some y] = some 0 := fun _ _ => rfl
  unfold ce__law_telling_1
  simp [e1, e2, io2]
end PD
set_option Elab.async false
set_option linter.all false
set_option maxRecDepth 100000
set_option maxHeartbeats 4000000
set_option exponentiation.threshold 5000
namespace PD
open PySem L2 PD.G
structure SideOk (s : Side) : Prop where
  lo : -100 ≤ s.2.1
  hi : s.2.1 ≤ 100
  up : ∀ x, s.2.2 = some x → s.2.1 ≤ x ∧ x ≤ s.2.1 + 50
/-- the numbers of one row's sides -/
theorem tell_lc (s1 s2 s3 s4 s5 s6 : SV) : ∀ (ss : List Side) (b : Bag) (acc : List Tms), BgOk b → b.idx + 27 * ss.length + 50 < 2 ^ 60 → acc.length + ss.length ≤ 100 → (∀ s ∈ ss, SideOk s) →
    ∃ (b' : Bag) (acc' : List Tms), lcL [7, 8, 9] (tgT 3 (tgCons (tgN 7) (tgCons (tgN 8) (tgCons (tgN 9) tgNil)))) bYes ce__law_telling_1 (ss.map encS) ((acc.map encN).map OV.fz) [.io (encB b), s1, s2, s3, s4, s5, s6, .un, .un, .un] =
        some (((acc ++ acc').map encN).map OV.fz, [.io (encB b'), s1, s2, s3, s4, s5, s6, .un, .un, .un]) ∧ BgOk b' ∧ b'.idx ≤ b.idx + 27 * ss.length ∧ acc'.length = ss.length ∧ ∀ a ∈ acc', NB 30 7000 200 a
  | [], b, acc, hb, hi, hl, hs => ⟨b, [], by simp [lcL], hb, by simp, rfl, fun _ h => (nomatch h)⟩
  | s :: ss, b, acc, hb, hi, hl, hs => by
    simp only [List.length_cons] at hi hl ⊢
    have hs0 := hs s List.mem_cons_self
    obtain ⟨a, b1, e1, o1, i1, hn⟩ := tell_side hb (by omega) hs0.lo hs0.hi hs0.up s1 s2 s3 s4 s5 s6 (.v (.fz (.int s.1)))
    obtain ⟨b2, acc', e2, o2, i2, ln, hns⟩ := tell_lc s1 s2 s3 s4 s5 s6 ss b1 (acc ++ [a]) o1 (by omega) (by simp; omega) (fun x hx => hs x (List.mem_cons_of_mem _ hx))
    refine ⟨b2, a :: acc', ?_, o2, by omega, by simp [ln], fun x hx => by
      rcases List.mem_cons.1 hx with rfl | hx
      · exact hn
      · exact hns x hx⟩
    have hsz : ((acc.map encN).map OV.fz).length < sizeLine := by
      rw [List.length_map, List.length_map]
      exact Nat.lt_of_lt_of_le (by omega : acc.length < 101) (by decide)
    have hg : tgT 3 (tgCons (tgN 7) (tgCons (tgN 8) (tgCons (tgN 9) tgNil))) (encS s) [.io (encB b), s1, s2, s3, s4, s5, s6, .un, .un, .un] = some [.io (encB b), s1, s2, s3, s4, s5, s6, .v (.fz (.int s.1)), .v (.fz (.int s.2.1)), .v (.fz (encO s.2.2))] := rfl
    have hw : wipeS [7, 8, 9] [.io (encB b), s1, s2, s3, s4, s5, s6, .un, .un, .un] = [.io (encB b), s1, s2, s3, s4, s5, s6, .un, .un, .un] := rfl
    have hw2 : wipeS [7, 8, 9] [.io (encB b1), s1, s2, s3, s4, s5, s6, .v (.fz (.int s.1)), .v (.fz (.int s.2.1)), .v (.fz (encO s.2.2))] = [.io (encB b1), s1, s2, s3, s4, s5, s6, .un, .un, .un] := rfl
    have hy : ∀ S, bYes S = some (true, S) := fun _ => rfl
    rw [List.map_cons, lcL]
    simp only [hw, hg, hy, e1, hsz, if_true, hw2]
    have e3 : ((acc.map encN).map OV.fz) ++ [.fz (encN a)] = (((acc ++ [a]).map encN).map OV.fz) := by simp
    rw [e3, e2]
    simp
end PD
set_option Elab.async false
set_option linter.all false
set_option maxRecDepth 100000
set_option maxHeartbeats 4000000
set_option exponentiation.threshold 5000
namespace PD
open PySem L2 PD.G
/-- the number of a row's root -/
theorem tell_root {b : Bag} (h : BgOk b) (hi : b.idx + 50 < 2 ^ 60) {r : Option (Int × Option Int)} (hr : ∀ p, r = some p → SideOk (0, p)) (s1 s2 s3 s5 s6 s7 s8 s9 : SV) :
    ∃ (a : Tms) (b' : Bag), (oFr (eIf (bOf (eBin gNotN true (eVar 4) (eC .none))) (oFr (eIo m__law_number 0 (qIo 0 (qFz (oFr (eIo m__law_within 0 (qIo 0 (qFz (eBin gIx true (eVar 4) (eC (.int 0))) (qFz (eBin gIx true (eVar 4) (eC (.int 1))) qNil))))) (qFz (eC (.int 3)) qNil))))) (eCall gTup' aNil))) [.io (encB b), s1, s2, s3, .v (.fz (encRt r)), s5, s6, s7, s8, s9] =
      some (.fz (encN a), [.io (encB b'), s1, s2, s3, .v (.fz (encRt r)), s5, s6, s7, s8, s9]) ∧ BgOk b' ∧ b'.idx ≤ b.idx + 27 ∧ NB 30 7000 200 a := by
  have gt : gTup' [] = some (.fz (.tuple [])) := rfl
  cases r with
  | none =>
    refine ⟨[], b, ?_, h, by omega, ⟨Cn.nil, Bd.nil⟩⟩
    have k : gNotN (.fz .none) (.fz .none) = some (.fz (.bool false)) := rfl
    simp [encRt, k, gt, encN]
  | some p =>
    have hs := hr p rfl
    obtain ⟨v, b1, e1, o1, i1, hv⟩ := within_any h (by omega) hs.lo hs.hi hs.up
    have hlo := hs.lo
    have hhi := hs.hi
    obtain ⟨a, b2, e2, o2, i2, hn⟩ := number_any o1 (by omega) (v := v) (fun x hx => by have := hv x hx; simp only at *; omega)
    refine ⟨a, b2, ?_, o2, by omega, hn⟩
    have io2 : ∀ x y : PyData, ioAt [none, some x, some y] = some 0 := fun _ _ => rfl
    have k : gNotN (.fz (.tuple [.int p.1, encO p.2])) (.fz .none) = some (.fz (.bool true)) := rfl
    have k0 : gIx (.fz (.tuple [.int p.1, encO p.2])) (.fz (.int 0)) = some (.fz (.int p.1)) := rfl
    have k1 : gIx (.fz (.tuple [.int p.1, encO p.2])) (.fz (.int 1)) = some (.fz (encO p.2)) := rfl
    simp only at e1
    simp [encRt, k, k0, k1, io2, e1, e2]
end PD
set_option Elab.async false
set_option linter.all false
set_option maxRecDepth 100000
set_option maxHeartbeats 4000000
set_option exponentiation.threshold 5000
namespace PD
open PySem L2 PD.G
structure RowD (r : Row) : Prop where
  sides : ∀ s ∈ r.1, SideOk s
  few : r.1.length ≤ 9
  root : ∀ p, r.2 = some p → SideOk (0, p)
/-- the telling of one row -/
theorem tell_row {b : Bag} (h : BgOk b) (hi : b.idx + 400 < 2 ^ 60) {r : Row} (hr : RowD r) (acc : Tell) (hl : acc.length ≤ 100) (s1 : SV) :
    ∃ (t : List Tms × Tms) (b' : Bag), fb__law_telling_1 [.io (encB b), s1, .v (.ol ((acc.map encTl1).map OV.fz)), .v (.fz (.tuple (r.1.map encS))), .v (.fz (encRt r.2)), .un, .un, .un, .un, .un] =
      some (.nx, [.io (encB b'), s1, .v (.ol (((acc ++ [t]).map encTl1).map OV.fz)), .v (.fz (.tuple (r.1.map encS))), .v (.fz (encRt r.2)), .v (.ol ((t.1.map encN).map OV.fz)), .v (.fz (encN t.2)), .un, .un, .un]) ∧ BgOk b' ∧ b'.idx ≤ b.idx + 270 ∧ t.1.length = r.1.length ∧ (∀ a ∈ t.1, NB 30 7000 200 a) ∧ NB 30 7000 200 t.2 := by
  obtain ⟨b1, ns, e1, o1, i1, ln, hns⟩ := tell_lc s1 (.v (.ol ((acc.map encTl1).map OV.fz))) (.v (.fz (.tuple (r.1.map encS)))) (.v (.fz (encRt r.2))) .un .un r.1 b [] h (by have := hr.few; omega) (by have := hr.few; simp; omega) hr.sides
  have hf := hr.few
  obtain ⟨q, b2, e2, o2, i2, hq⟩ := tell_root o1 (by omega) hr.root s1 (.v (.ol ((acc.map encTl1).map OV.fz))) (.v (.fz (.tuple (r.1.map encS)))) (.v (.ol ((ns.map encN).map OV.fz))) .un .un .un .un
  refine ⟨(ns, q), b2, ?_, o2, by omega, ln, hns, hq⟩
  have hlc : eLc [7, 8, 9] (iSeq (eVar 3)) (tgT 3 (tgCons (tgN 7) (tgCons (tgN 8) (tgCons (tgN 9) tgNil)))) bYes ce__law_telling_1 [.io (encB b), s1, .v (.ol ((acc.map encTl1).map OV.fz)), .v (.fz (.tuple (r.1.map encS))), .v (.fz (encRt r.2)), .un, .un, .un, .un, .un] = some (.ol ((ns.map encN).map OV.fz), [.io (encB b1), s1, .v (.ol ((acc.map encTl1).map OV.fz)), .v (.fz (.tuple (r.1.map encS))), .v (.fz (encRt r.2)), .un, .un, .un, .un, .un]) := by
    unfold eLc
    have hit : iSeq (eVar 3) [.io (encB b), s1, .v (.ol ((acc.map encTl1).map OV.fz)), .v (.fz (.tuple (r.1.map encS))), .v (.fz (encRt r.2)), .un, .un, .un, .un, .un] = some (r.1.map encS, [.io (encB b), s1, .v (.ol ((acc.map encTl1).map OV.fz)), .v (.fz (.tuple (r.1.map encS))), .v (.fz (encRt r.2)), .un, .un, .un, .un, .un]) := by
      have hq : ∀ xs : List PyData, seqD (.fz (.tuple xs)) = some xs := fun _ => rfl
      simp [hq]
    rw [hit]
    simp only [List.map_nil] at e1
    simp only [e1, List.nil_append]
  have hs : seqX (.ol ((ns.map encN).map OV.fz)) = some (ns.map encN) := allFz_fz _
  have gt2 : ∀ x y : PyData, gTup' [.fz x, .fz y] = some (.fz (.tuple [x, y])) := fun _ _ => rfl
  have hsz : acc.length < sizeLine := Nat.lt_of_lt_of_le (by omega : acc.length < 101) (by decide)
  have k1 : ∀ (z x4 x5 x6 x7 x8 x9 x3 : SV) (xs : List OV), isOl 2 [z, s1, .v (.ol xs), x3, x4, x5, x6, x7, x8, x9] = true := fun _ _ _ _ _ _ _ _ _ => rfl
  have k2 : ∀ (z x4 x5 x6 x7 x8 x9 x3 : SV) (xs : List OV), getS 2 [z, s1, .v (.ol xs), x3, x4, x5, x6, x7, x8, x9] = some (.ol xs) := fun _ _ _ _ _ _ _ _ _ => rfl
  have k3 : ∀ (z x4 x5 x6 x7 x8 x9 x3 : SV) (xs ys : List OV), modS 2 (.ol ys) [z, s1, .v (.ol xs), x3, x4, x5, x6, x7, x8, x9] = [z, s1, .v (.ol ys), x3, x4, x5, x6, x7, x8, x9] := fun _ _ _ _ _ _ _ _ _ _ => rfl
  have st1 : gSet 5 (eLc [7, 8, 9] (iSeq (eVar 3)) (tgT 3 (tgCons (tgN 7) (tgCons (tgN 8) (tgCons (tgN 9) tgNil)))) bYes ce__law_telling_1) [.io (encB b), s1, .v (.ol ((acc.map encTl1).map OV.fz)), .v (.fz (.tuple (r.1.map encS))), .v (.fz (encRt r.2)), .un, .un, .un, .un, .un] = some (.nx, [.io (encB b1), s1, .v (.ol ((acc.map encTl1).map OV.fz)), .v (.fz (.tuple (r.1.map encS))), .v (.fz (encRt r.2)), .v (.ol ((ns.map encN).map OV.fz)), .un, .un, .un, .un]) := by
    rw [x_gSet, hlc]
    rfl
  unfold fb__law_telling_1
  rw [x_gSeq, st1]
  simp only
  rw [x_gSeq, x_gSet, e2]
  simp [-List.map_map, hs, gt2, hsz, k1, k2, k3, g1, gTuple, encTl1]
end PD
set_option Elab.async false
set_option linter.all false
set_option maxRecDepth 100000
set_option maxHeartbeats 4000000
set_option exponentiation.threshold 5000
namespace PD
open PySem L2 PD.G
structure TellOk (r : Row) (t : List Tms × Tms) : Prop where
  len : t.1.length = r.1.length
  sides : ∀ a ∈ t.1, NB 30 7000 200 a
  root : NB 30 7000 200 t.2
inductive TellsOk : List Row → Tell → Prop where
  | nil : TellsOk [] []
  | cons {r t rs ts} : TellOk r t → TellsOk rs ts → TellsOk (r :: rs) (t :: ts)
theorem tell_loop (s1 : SV) : ∀ (rs : List Row) (b : Bag) (acc : Tell), BgOk b → b.idx + 270 * rs.length + 400 < 2 ^ 60 → acc.length + rs.length ≤ 100 → (∀ r ∈ rs, RowD r) →
    ∃ (b' : Bag) (ts : Tell), forL [3, 4, 5, 6, 7] fg__law_telling_1 fb__law_telling_1 (rs.map encRow) [.io (encB b), s1, .v (.ol ((acc.map encTl1).map OV.fz)), .un, .un, .un, .un, .un, .un, .un] =
      some (.nx, [.io (encB b'), s1, .v (.ol (((acc ++ ts).map encTl1).map OV.fz)), .un, .un, .un, .un, .un, .un, .un]) ∧ BgOk b' ∧ b'.idx ≤ b.idx + 270 * rs.length ∧ TellsOk rs ts
  | [], b, acc, hb, hi, hl, hs => ⟨b, [], by simp [forL], hb, by simp, .nil⟩
  | r :: rs, b, acc, hb, hi, hl, hs => by
    simp only [List.length_cons] at hi hl ⊢
    obtain ⟨t, b1, e1, o1, i1, l1, n1, n2⟩ := tell_row hb (by omega) (hs r List.mem_cons_self) acc (by omega) s1
    obtain ⟨b2, ts, e2, o2, i2, hf⟩ := tell_loop s1 rs b1 (acc ++ [t]) o1 (by omega) (by simp; omega) (fun x hx => hs x (List.mem_cons_of_mem _ hx))
    refine ⟨b2, t :: ts, ?_, o2, by omega, .cons ⟨l1, n1, n2⟩ hf⟩
    have hg : fg__law_telling_1 (encRow r) [.io (encB b), s1, .v (.ol ((acc.map encTl1).map OV.fz)), .un, .un, .un, .un, .un, .un, .un] = some [.io (encB b), s1, .v (.ol ((acc.map encTl1).map OV.fz)), .v (.fz (.tuple (r.1.map encS))), .v (.fz (encRt r.2)), .un, .un, .un, .un, .un] := rfl
    rw [List.map_cons, forL_cons hg e1]
    have e3 : acc ++ t :: ts = (acc ++ [t]) ++ ts := by simp
    rw [e3]
    exact e2
end PD
set_option Elab.async false
set_option linter.all false
set_option maxRecDepth 100000
set_option maxHeartbeats 4000000
set_option exponentiation.threshold 5000
namespace PD
open PySem L2 PD.G
theorem telling_run {b : Bag} (h : BgOk b) {n : Nat} {rs : List Row} (hl : rs.length ≤ 100) (hi : b.idx + 28000 < 2 ^ 60) (hs : ∀ r ∈ rs, RowD r) :
    ∃ (b' : Bag) (ts : Tell), m__law_telling [encB b, .fz (encTab n rs)] = some (.fz (encTl ts), [encB b', .fz (encTab n rs)]) ∧ BgOk b' ∧ b'.idx ≤ b.idx + 27000 ∧ TellsOk rs ts := by
  obtain ⟨b', ts, e, o, i, hf⟩ := tell_loop (.v (.fz (encTab n rs))) rs b [] h (by omega) (by simp; omega) hs
  refine ⟨b', ts, ?_, o, by omega, hf⟩
  have hix : gIx (.fz (encTab n rs)) (.fz (.int 1)) = some (.fz (.tuple (rs.map encRow))) := rfl
  have hq : ∀ xs : List PyData, seqD (.fz (.tuple xs)) = some xs := fun _ => rfl
  have gl : gLst' [] = some (.ol []) := rfl
  have hx : seqX (.ol ((ts.map encTl1).map OV.fz)) = some (ts.map encTl1) := allFz_fz _
  have hfor : gFor [3, 4, 5, 6, 7] (iSeq (eBin gIx true (eVar 1) (eC (.int 1)))) fg__law_telling_1 fb__law_telling_1 [.io (encB b), .v (.fz (encTab n rs)), .v (.ol []), .un, .un, .un, .un, .un, .un, .un] = some (.nx, [.io (encB b'), .v (.fz (encTab n rs)), .v (.ol ((ts.map encTl1).map OV.fz)), .un, .un, .un, .un, .un, .un, .un]) := by
    refine gFor_of (ds := rs.map encRow) (S1 := [.io (encB b), .v (.fz (encTab n rs)), .v (.ol []), .un, .un, .un, .un, .un, .un, .un]) ?_ e
    simp [hix, hq]
  unfold m__law_telling mb__law_telling
  rw [x_fnM]
  simp [-x_gFor, -List.map_map, gl, hfor, g1, gTuple, hx, encTl]
end PD
set_option Elab.async false
set_option linter.all false
set_option maxRecDepth 100000
set_option maxHeartbeats 4000000
/-! PDW: what a mirror gives, by what is wanted of it (forward from the state). -/
namespace PD
open PySem L2
/-- keeps simp out of what comes later -/
structure Tok {γ : Sort u} (q : γ) : Type where
  n : Nat
/-- it ends, and what comes is so -/
def W {α β : Type} (x : Option (α × β)) (Q : α → β → Prop) (_u : Tok Q := ⟨0⟩) : Prop := ∃ a b, x = some (a, b) ∧ Q a b
def W1 {α : Type} (x : Option α) (Q : α → Prop) (_u : Tok Q := ⟨0⟩) : Prop := ∃ a, x = some a ∧ Q a
def gd (p P : Prop) (_u : Tok P := ⟨0⟩) : Prop := p ∧ P
def br (b : Bool) (P R : Prop) (_u : Tok P := ⟨0⟩) (_v : Tok R := ⟨0⟩) : Prop := (b = true → P) ∧ (b = false → R)
def nx (f : Fl) (P R : Prop) (_u : Tok P := ⟨0⟩) (_v : Tok R := ⟨0⟩) : Prop := (f = .nx → P) ∧ (f ≠ .nx → R)
def lp (f : Fl) (P R : Prop) (Z : OV → Prop) (_u : Tok P := ⟨0⟩) (_v : Tok R := ⟨0⟩) (_w : Tok Z := ⟨0⟩) : Prop := match f with
  | .nx => P
  | .ct => P
  | .bk => R
  | .rt o => Z o
theorem w_some {α β : Type} {a : α} {b : β} {Q : α → β → Prop} : W (some (a, b)) Q ↔ Q a b := ⟨fun ⟨_, _, e, q⟩ => by cases e; exact q, fun q => ⟨a, b, rfl, q⟩⟩
theorem w_none {α β : Type} {Q : α → β → Prop} : W (none : Option (α × β)) Q ↔ False := by simp [W]
theorem w1_some {α : Type} {a : α} {Q : α → Prop} : W1 (some a) Q ↔ Q a := by simp [W1]
theorem w1_none {α : Type} {Q : α → Prop} : W1 (none : Option α) Q ↔ False := by simp [W1]
theorem w1_ite {α : Type} {c : Prop} [Decidable c] {a : α} {Q : α → Prop} : W1 (if c then some a else none) Q ↔ gd c (Q a) := by
  by_cases h : c <;> simp [w1_some, w1_none, gd, h]
theorem w1_map {α β : Type} {f : α → β} {x : Option α} {Q : β → Prop} : W1 (x.map f) Q ↔ W1 x fun a => Q (f a) := by cases x <;> simp [W1]
theorem gd_true {P : Prop} : gd True P ↔ P := by simp [gd]
theorem gd_of {p P : Prop} (h : p) (h2 : P) : gd p P := ⟨h, h2⟩
theorem br_true {P R : Prop} : br true P R ↔ P := by simp [br]
theorem br_false {P R : Prop} : br false P R ↔ R := by simp [br]
theorem br_of {b : Bool} {P R : Prop} (h1 : b = true → P) (h2 : b = false → R) : br b P R := ⟨h1, h2⟩
theorem br_dec {p : Prop} [Decidable p] {P R : Prop} (h1 : p → P) (h2 : ¬ p → R) : br (decide p) P R := ⟨fun h => h1 (of_decide_eq_true h), fun h => h2 (of_decide_eq_false h)⟩
theorem br_ndec {p : Prop} [Decidable p] {P R : Prop} (h1 : ¬ p → P) (h2 : p → R) : br (!decide p) P R := ⟨fun h => h1 (by simpa using h), fun h => h2 (by simpa using h)⟩
theorem nx_nx {P R : Prop} : nx .nx P R ↔ P := by simp [nx]
theorem nx_rt {P R : Prop} {o : OV} : nx (.rt o) P R ↔ R := by simp [nx]
theorem nx_ct {P R : Prop} : nx .ct P R ↔ R := by simp [nx]
theorem nx_bk {P R : Prop} : nx .bk P R ↔ R := by simp [nx]
theorem lp_nx {P R : Prop} {Z : OV → Prop} : lp .nx P R Z ↔ P := Iff.rfl
theorem lp_ct {P R : Prop} {Z : OV → Prop} : lp .ct P R Z ↔ P := Iff.rfl
theorem lp_bk {P R : Prop} {Z : OV → Prop} : lp .bk P R Z ↔ R := Iff.rfl
theorem lp_rt {P R : Prop} {Z : OV → Prop} {o : OV} : lp (.rt o) P R Z ↔ Z o := Iff.rfl
theorem W.mono {α β : Type} {x : Option (α × β)} {Q R : α → β → Prop} (h : W x Q) (i : ∀ a b, Q a b → R a b) : W x R := by
  obtain ⟨a, b, e, q⟩ := h
  exact ⟨a, b, e, i _ _ q⟩
theorem w_eq {α β : Type} {x : Option (α × β)} {a : α} {b : β} {Q : α → β → Prop} (h : x = some (a, b)) (q : Q a b) : W x Q := ⟨a, b, h, q⟩
theorem w1_eq {α : Type} {x : Option α} {a : α} {Q : α → Prop} (h : x = some a) (q : Q a) : W1 x Q := ⟨a, h, q⟩
theorem W.eq {α β : Type} {x : Option (α × β)} {a : α} {b : β} (h : W x fun a' b' => a' = a ∧ b' = b) : x = some (a, b) := by
  obtain ⟨a, b, e, rfl, rfl⟩ := h
  exact e
/-! ### readings -/
def fzO : OV → Option PyData
  | .fz d => some d
  | _ => none
def intO : OV → Option Int
  | .fz (.int i) => some i
  | _ => none
def boO : OV → Option Bool
  | .fz (.bool b) => some b
  | _ => none
def olO : OV → Option (List OV)
  | .ol xs => some xs
  | _ => none
theorem fzO_fz {d : PyData} : fzO (.fz d) = some d := rfl
theorem intO_int {i : Int} : intO (.fz (.int i)) = some i := rfl
theorem boO_bool {b : Bool} : boO (.fz (.bool b)) = some b := rfl
theorem olO_ol {xs : List OV} : olO (.ol xs) = some xs := rfl
def getV (i : Nat) (S : SS) : Option OV := match S[i]? with
  | some (.v o) => some o
  | _ => none
theorem getV_0 {o : OV} {S : SS} : getV 0 (.v o :: S) = some o := rfl
theorem getV_s {i : Nat} {a : SV} {S : SS} : getV (i + 1) (a :: S) = getV i S := rfl
theorem getS_v {o : OV} {S : SS} : getS 0 (.v o :: S) = some o := rfl
theorem getS_io {o : OV} {S : SS} : getS 0 (.io o :: S) = some o := rfl
theorem getS_s {i : Nat} {a : SV} {S : SS} : getS (i + 1) (a :: S) = getS i S := rfl
theorem isOl_v {o : List OV} {S : SS} : isOl 0 (.v (.ol o) :: S) = true := rfl
theorem isOl_io {o : List OV} {S : SS} : isOl 0 (.io (.ol o) :: S) = true := rfl
theorem isOl_s {i : Nat} {a : SV} {S : SS} : isOl (i + 1) (a :: S) = isOl i S := rfl
theorem modS_v {o y : OV} {S : SS} : modS 0 y (.v o :: S) = .v y :: S := rfl
theorem modS_io {o y : OV} {S : SS} : modS 0 y (.io o :: S) = .io y :: S := rfl
theorem modS_s {i : Nat} {y : OV} {a : SV} {S : SS} : modS (i + 1) y (a :: S) = a :: modS i y S := by
  unfold modS
  rw [List.getElem?_cons_succ]
  cases S[i]? <;> rfl
theorem putS_v {o y : OV} {S : SS} : putS 0 y (.v o :: S) = some (.v y :: S) := rfl
theorem putS_un {y : OV} {S : SS} : putS 0 y (.un :: S) = some (.v y :: S) := rfl
theorem putS_s {i : Nat} {y : OV} {a : SV} {S : SS} : putS (i + 1) y (a :: S) = (putS i y S).map (a :: ·) := by
  unfold putS
  rw [List.getElem?_cons_succ]
  cases S[i]? with
  | none => rfl
  | some u => cases u <;> rfl
theorem set_0 {u a : SV} {S : SS} : List.set (a :: S) 0 u = u :: S := rfl
theorem set_s {i : Nat} {u a : SV} {S : SS} : List.set (a :: S) (i + 1) u = a :: List.set S i u := rfl
theorem wipeS_nil {S : SS} : wipeS [] S = S := rfl
theorem wipeS_cons {i : Nat} {is : List Nat} {S : SS} : wipeS (i :: is) S = wipeS is (S.set i .un) := rfl
def isV (i : Nat) (S : SS) : Bool := (getS i S).isSome
theorem isV_v {o : OV} {S : SS} : isV 0 (.v o :: S) = true := rfl
theorem isV_io {o : OV} {S : SS} : isV 0 (.io o :: S) = true := rfl
theorem isV_s {i : Nat} {a : SV} {S : SS} : isV (i + 1) (a :: S) = isV i S := rfl
def qArgs (o : OV) (qs : List (Option PyData)) : List OV := qs.map fun q => match q with
  | some d => .fz d
  | none => o
theorem qArgs_nil {o : OV} : qArgs o [] = [] := rfl
theorem qArgs_some {o : OV} {d : PyData} {qs : List (Option PyData)} : qArgs o (some d :: qs) = .fz d :: qArgs o qs := rfl
theorem qArgs_none {o : OV} {qs : List (Option PyData)} : qArgs o (none :: qs) = o :: qArgs o qs := rfl
def endv : Fl → Option OV
  | .rt o => some o
  | .nx => some (.fz .none)
  | _ => none
theorem endv_rt {o : OV} : endv (.rt o) = some o := rfl
theorem endv_nx : endv .nx = some (.fz .none) := rfl
theorem isSome_some {α : Type} {a : α} : (some a).isSome = true := rfl

section
variable {S : SS} {f fa fb fc fe fk fv : EV} {Q : OV → SS → Prop} {QA : List OV → SS → Prop} {QB : Bool → SS → Prop} {QI : List PyData → SS → Prop} {QS : Fl → SS → Prop} {QG : SS → Prop} {QQ : List (Option PyData) → SS → Prop} {QP : Option Int → SS → Prop}
  {ga gb : EA} {g g1 g2 : SM} {ft ta tb : EB} {i j k : Nat} {d : PyData} {ds : List PyData} {pb pl ph : Bool} {gv : GV} {gvs : GVs} {fq : EQ'} {fi fj : EI} {fl fh : EOp} {m : Mir} {is vs vs1 : List Nat}
theorem w_oFz : W (oFz f S) Q ↔ W (f S) fun o S1 => W1 (fzO o) fun d => Q (.fz d) S1 := by
  unfold oFz
  cases f S with
  | none => simp [w_some, w_none]
  | some p => obtain ⟨o, S1⟩ := p; cases o <;> simp [w_some, w_none, w1_some, w1_none, fzO]
theorem w_oFr : W (oFr f S) Q ↔ W (f S) fun o S1 => Q (.fz o.erase) S1 := by
  unfold oFr
  cases f S with
  | none => simp [w_some, w_none]
  | some p => obtain ⟨o, S1⟩ := p; simp [w_some, w_none]
theorem w_oSt : W (oSt f S) Q ↔ W (f S) fun o S1 => gd (still o.erase = true) (Q (.fz o.erase) S1) := by
  unfold oSt
  cases f S with
  | none => simp [w_some, w_none]
  | some p => obtain ⟨o, S1⟩ := p; by_cases h : still o.erase = true <;> simp [w_some, w_none, gd, h]
theorem w_eVar : W (eVar i S) Q ↔ W1 (getS i S) fun o => Q o S := by
  unfold eVar getS
  cases S[i]? with
  | none => simp [w_some, w_none, w1_some, w1_none]
  | some u => cases u <;> simp [w_some, w_none, w1_some, w1_none, SV.ov]
theorem w_eMov : W (eMov i S) Q ↔ W1 (getV i S) fun o => Q (.fz o.erase) (S.set i (.v (.fz o.erase))) := by
  unfold eMov getV
  cases S[i]? with
  | none => simp [w_some, w_none, w1_some, w1_none]
  | some u => cases u <;> simp [w_some, w_none, w1_some, w1_none]
theorem w_eTake : W (eTake i S) Q ↔ W1 (getV i S) fun o => Q o (S.set i .un) := by
  unfold eTake getV
  cases S[i]? with
  | none => simp [w_some, w_none, w1_some, w1_none]
  | some u => cases u <;> simp [w_some, w_none, w1_some, w1_none]
theorem w_eC : W (eC d S) Q ↔ Q (.fz d) S := by simp [w_some, w_none]
theorem w_aNil : W (aNil S) QA ↔ QA [] S := by simp [w_some, w_none]
theorem w_aCons : W (aCons pb fa ga S) QA ↔ W (fa S) fun x S1 => gd ((pb || x.isFz) = true) (W (ga S1) fun xs S2 => QA (x :: xs) S2) := by
  unfold aCons
  cases fa S with
  | none => simp [w_some, w_none]
  | some p =>
    obtain ⟨x, S1⟩ := p
    by_cases h : (pb || x.isFz) = true
    · cases hb : ga S1 with
      | none => simp [w_some, w_none, gd, hb]
      | some p => obtain ⟨xs, S2⟩ := p; simp only [if_pos h, w_some, w_none, gd, hb]; simp [h]
    · simp only [w_some, w_none, gd]; simp [h, w_none]
theorem w_aStar : W (aStar fa ga S) QA ↔ W (fa S) fun x S1 => W1 (seqX x) fun ds => W (ga S1) fun xs S2 => QA (ds.map OV.fz ++ xs) S2 := by
  unfold aStar
  cases fa S with
  | none => simp [w_some, w_none]
  | some p =>
    obtain ⟨x, S1⟩ := p
    cases hs : seqX x with
    | none => simp [w_some, w_none, w1_some, w1_none, hs]
    | some ds =>
      cases hb : ga S1 with
      | none => simp [w_some, w_none, w1_some, w1_none, hs, hb]
      | some p => obtain ⟨xs, S2⟩ := p; simp [w_some, w_none, w1_some, w1_none, hs, hb]
theorem w_eBin {g : OV → OV → Option OV} : W (eBin g pb fa fb S) Q ↔ W (fa S) fun x S1 => gd ((pb || x.isFz) = true) (W (fb S1) fun y S2 => W1 (g x y) fun o => Q o S2) := by
  unfold eBin
  cases fa S with
  | none => simp [w_some, w_none]
  | some p =>
    obtain ⟨x, S1⟩ := p
    by_cases h : (pb || x.isFz) = true
    · cases hb : fb S1 with
      | none => simp [w_some, w_none, gd, hb]
      | some p =>
        obtain ⟨y, S2⟩ := p
        cases hg : g x y <;> simp only [if_pos h, w_some, w_none, w1_some, w1_none, gd, hb, hg] <;> simp [h, hg]
    · simp only [w_some, w_none, gd]; simp [h, w_none]
theorem w_eUn {g : OV → Option OV} : W (eUn g fa S) Q ↔ W (fa S) fun x S1 => W1 (g x) fun o => Q o S1 := by
  unfold eUn
  cases fa S with
  | none => simp [w_some, w_none]
  | some p => obtain ⟨x, S1⟩ := p; cases hg : g x <;> simp [w_some, w_none, w1_some, w1_none, hg]
theorem w_eCall {g : List OV → Option OV} : W (eCall g ga S) Q ↔ W (ga S) fun x S1 => W1 (g x) fun o => Q o S1 := by
  unfold eCall
  cases ga S with
  | none => simp [w_some, w_none]
  | some p => obtain ⟨x, S1⟩ := p; cases hg : g x <;> simp [w_some, w_none, w1_some, w1_none, hg]
theorem w_gNx : W (gNx S) QS ↔ QS .nx S := by simp [w_some, w_none]
theorem w_gBk : W (gBk S) QS ↔ QS .bk S := by simp [w_some, w_none]
theorem w_gCt : W (gCt S) QS ↔ QS .ct S := by simp [w_some, w_none]
theorem w_gNo : W (gNo S) QS ↔ False := by simp [w_some, w_none, gNo]
theorem w_gSeq : W (gSeq g1 g2 S) QS ↔ W (g1 S) fun f S1 => nx f (W (g2 S1) QS) (QS f S1) := by
  unfold gSeq
  cases g1 S with
  | none => simp [w_some, w_none]
  | some p => obtain ⟨x, S1⟩ := p; cases x <;> simp [w_some, w_none, nx]
theorem w_gDrop : W (gDrop f S) QS ↔ W (f S) fun _ S1 => QS .nx S1 := by
  unfold gDrop
  cases f S with
  | none => simp [w_some, w_none]
  | some p => obtain ⟨x, S1⟩ := p; simp [w_some, w_none]
theorem w_gRet : W (gRet f S) QS ↔ W (f S) fun o S1 => QS (.rt o) S1 := by
  unfold gRet
  cases f S with
  | none => simp [w_some, w_none]
  | some p => obtain ⟨x, S1⟩ := p; simp [w_some, w_none]
theorem w_gRetV : W (gRetV i S) QS ↔ W1 (getV i S) fun o => QS (.rt o) (S.set i .un) := by
  unfold gRetV getV
  cases S[i]? with
  | none => simp [w_some, w_none, w1_some, w1_none]
  | some u => cases u <;> simp [w_some, w_none, w1_some, w1_none]
theorem w_gRetN : W (gRetN S) QS ↔ QS (.rt (.fz .none)) S := by simp [w_some, w_none]
theorem w_gIf : W (gIf ft g1 g2 S) QS ↔ W (ft S) fun b S1 => br b (W (g1 S1) QS) (W (g2 S1) QS) := by
  unfold gIf
  cases ft S with
  | none => simp [w_some, w_none]
  | some p => obtain ⟨b, S1⟩ := p; cases b <;> simp [w_some, w_none, br]
theorem w_gSet : W (gSet i f S) QS ↔ W (f S) fun o S1 => W1 (putS i o S1) fun S2 => QS .nx S2 := by
  unfold gSet
  cases f S with
  | none => simp [w_some, w_none]
  | some p => obtain ⟨o, S1⟩ := p; cases hp : putS i o S1 <;> simp only [w_some, w_none, w1_some, w1_none, hp] <;> simp [-x_putS, hp]
theorem w_gMove : W (gMove i j S) QS ↔ W1 (getV j S) fun o => W1 (putS i o (S.set j .un)) fun S2 => QS .nx S2 := by
  unfold gMove getV
  cases S[j]? with
  | none => simp [w_some, w_none, w1_some, w1_none]
  | some u => cases u with
    | v o => cases hp : putS i o (S.set j .un) <;> simp only [w_some, w_none, w1_some, w1_none, hp] <;> simp [-x_putS, hp]
    | _ => simp [w_some, w_none, w1_some, w1_none]
theorem w_tgN : W1 (tgN i d S) QG ↔ W1 (putS i (.fz d) S) QG := Iff.rfl
theorem w_tgNil : W1 (tgNil [] S) QG ↔ QG S := by simp [w1_some, w1_none, tgNil]
theorem w_tgCons : W1 (tgCons gv gvs (d :: ds) S) QG ↔ W1 (gv d S) fun S1 => W1 (gvs ds S1) QG := by
  simp only [tgCons]
  cases hp : gv d S <;> simp [w1_some, w1_none, hp]
theorem w_tgT : W1 (tgT k gvs (.tuple ds) S) QG ↔ gd (ds.length = k) (W1 (gvs ds S) QG) := by
  simp only [tgT]
  by_cases h : ds.length = k <;> simp [w1_some, w1_none, gd, h]
theorem w_gAsg : W (gAsg f gv S) QS ↔ W (f S) fun o S1 => W1 (fzO o) fun d => W1 (gv d S1) fun S2 => QS .nx S2 := by
  unfold gAsg
  cases f S with
  | none => simp [w_some, w_none]
  | some p => obtain ⟨o, S1⟩ := p; cases o with
    | fz d => cases hp : gv d S1 <;> simp [w_some, w_none, w1_some, w1_none, fzO, hp]
    | _ => simp [w_some, w_none, w1_some, w1_none, fzO]
theorem w_gPar : W (gPar i j fa fb S) QS ↔ W (fa S) fun x S1 => W (fb S1) fun y S2 => W1 (putS i x S2) fun S3 => W1 (putS j y S3) fun S4 => QS .nx S4 := by
  unfold gPar
  cases fa S with
  | none => simp [w_some, w_none]
  | some p =>
    obtain ⟨x, S1⟩ := p
    cases hb : fb S1 with
    | none => simp [w_some, w_none, hb]
    | some p =>
      obtain ⟨y, S2⟩ := p
      cases h3 : putS i x S2 with
      | none => simp [-x_putS, w_some, w_none, w1_some, w1_none, hb, h3]
      | some S3 => cases h4 : putS j y S3 <;> simp [-x_putS, w_some, w_none, w1_some, w1_none, hb, h3, h4]
theorem w_fnM {na nl : Nat} {body : SM} {avs : List OV} {Q : OV → List OV → Prop} : W (fnM na nl body avs) Q ↔ gd (avs.length = na) (W (body (avs.map entry ++ List.replicate (nl - na) .un)) fun f S => W1 (endv f) fun o => gd (ioOk 0 avs S = true) (Q o (outs 0 avs S))) := by
  unfold fnM
  by_cases h : avs.length = na
  · simp only [if_pos h, gd]
    cases hb : body (avs.map entry ++ List.replicate (nl - na) .un) with
    | none => simp [w_some, w_none, hb]
    | some p =>
      obtain ⟨x, S1⟩ := p
      by_cases h2 : ioOk 0 avs S1 = true
      · cases x <;> simp [w_some, w_none, w1_some, w1_none, hb, endv, h, h2, gd]
      · cases x <;> simp [w_some, w_none, w1_some, w1_none, hb, endv, h, h2, gd]
  · simp [w_some, w_none, gd, h]
theorem w_qNil : W (qNil S) QQ ↔ QQ [] S := by simp [w_some, w_none]
theorem w_qFz : W (qFz fa fq S) QQ ↔ W (fa S) fun o S1 => W1 (fzO o) fun d => W (fq S1) fun qs S2 => QQ (some d :: qs) S2 := by
  unfold qFz
  cases fa S with
  | none => simp [w_some, w_none]
  | some p => obtain ⟨o, S1⟩ := p; cases o with
    | fz d => cases hp : fq S1 with
      | none => simp [w_some, w_none, w1_some, w1_none, fzO, hp]
      | some p => obtain ⟨qs, S2⟩ := p; simp [w_some, w_none, w1_some, w1_none, fzO, hp]
    | _ => simp [w_some, w_none, w1_some, w1_none, fzO]
theorem w_qIo : W (qIo i fq S) QQ ↔ gd (isV i S = true) (W (fq S) fun qs S2 => QQ (none :: qs) S2) := by
  unfold qIo isV getS
  cases S[i]? with
  | none => simp [w_some, w_none, gd]
  | some u => cases u with
    | un => simp [w_some, w_none, gd, SV.ov]
    | v o => cases hp : fq S with
      | none => simp [w_some, w_none, gd, SV.ov, hp]
      | some p => obtain ⟨qs, S2⟩ := p; simp [w_some, w_none, gd, SV.ov, hp]
    | io o => cases hp : fq S with
      | none => simp [w_some, w_none, gd, SV.ov, hp]
      | some p => obtain ⟨qs, S2⟩ := p; simp [w_some, w_none, gd, SV.ov, hp]
theorem eIo_eq : eIo m i fq S = match fq S with
  | some (qs, S1) => (match ioAt qs, (S1[i]?).bind svOv with
    | some j, some (o, b) => if o.isFz then none else (match m (qArgs o qs) with
      | some (r, avs') => (match avs'[j]? with
        | some o' => if o'.isFz then none else some (r, S1.set i (mkSv b o'))
        | none => none)
      | none => none)
    | _, _ => none)
  | none => none := rfl
theorem w_eIo : W (eIo m i fq S) Q ↔ W (fq S) fun qs S1 => W1 (ioAt qs) fun j => W1 (getS i S1) fun o => gd (o.isFz = false) (W (m (qArgs o qs)) fun r avs' => W1 (avs'[j]?) fun o' => gd (o'.isFz = false) (Q r (modS i o' S1))) := by
  rw [eIo_eq]
  cases fq S with
  | none => simp [w_some, w_none]
  | some p =>
    obtain ⟨qs, S1⟩ := p
    cases hj : ioAt qs with
    | none => simp [w_some, w_none, w1_some, w1_none, hj]
    | some j =>
      unfold getS modS
      cases hu : S1[i]? with
      | none => simp [w_some, w_none, w1_some, w1_none, hj, hu]
      | some u =>
        have key : ∀ (o : OV) (b : Bool), svOv u = some (o, b) → (∀ y, mkSv b y = u.put y) ∧ SV.ov u = some o := by
          intro o b h
          cases u <;> simp [svOv] at h <;> obtain ⟨rfl, rfl⟩ := h <;> simp [mkSv, SV.put, SV.ov]
        cases hs : svOv u with
        | none =>
          have : SV.ov u = none := by cases u <;> simp [svOv] at hs <;> rfl
          simp [w_some, w_none, w1_some, w1_none, hj, hu, hs, this]
        | some q =>
          obtain ⟨o, b⟩ := q
          obtain ⟨k1, k2⟩ := key o b hs
          cases hz : o.isFz with
          | true => simp [w_some, w_none, w1_some, w1_none, hj, hu, hs, k2, hz, gd]
          | false =>
            simp only [w_some, w1_some, gd, hj, hu, hs, k2, hz, Option.bind_some, true_and, Bool.false_eq_true, if_false]
            cases hm : m (qArgs o qs) with
            | none => simp only [w_none]
            | some q2 =>
              obtain ⟨r, avs'⟩ := q2
              simp only [w_some]
              cases ha : avs'[j]? with
              | none => simp [ha, w_none, w1_none]
              | some o' => cases hz' : o'.isFz <;> simp [ha, hz', k1, w_some, w_none, w1_some, hu]
theorem w_iSeq : W (iSeq f S) QI ↔ W (f S) fun o S1 => W1 (seqD o) fun ds => QI ds S1 := by
  unfold iSeq
  cases f S with
  | none => simp [w_some, w_none]
  | some p => obtain ⟨o, S1⟩ := p; cases hp : seqD o <;> simp [w_some, w_none, w1_some, w1_none, hp]
theorem w_iEnum : W (iEnum' f S) QI ↔ W (f S) fun o S1 => W1 (seqD o) fun ds => QI (enumD ds) S1 := by
  unfold iEnum'
  cases f S with
  | none => simp [w_some, w_none]
  | some p => obtain ⟨o, S1⟩ := p; cases hp : seqD o <;> simp [w_some, w_none, w1_some, w1_none, hp]
theorem w_iRange1 : W (iRange1 f S) QI ↔ W (f S) fun o S1 => W1 (intO o) fun j => gd (okR j = true) (QI (rangeD 0 j.toNat) S1) := by
  unfold iRange1
  cases f S with
  | none => simp [w_some, w_none]
  | some p =>
    obtain ⟨o, S1⟩ := p
    cases o with
    | fz d => cases d with
      | int j => by_cases h : okR j = true <;> simp [w_some, w_none, w1_some, w1_none, intO, gd, h]
      | _ => simp [w_some, w_none, w1_some, w1_none, intO]
    | _ => simp [w_some, w_none, w1_some, w1_none, intO]
theorem w_iRange2 : W (iRange2 fa fb S) QI ↔ W (fa S) fun x S1 => W1 (intO x) fun i => W (fb S1) fun y S2 => W1 (intO y) fun j => gd ((okR i && okR j) = true) (QI (rangeD i (j - i).toNat) S2) := by
  unfold iRange2
  cases fa S with
  | none => simp [w_some, w_none]
  | some p =>
    obtain ⟨o, S1⟩ := p
    cases o with
    | fz d => cases d with
      | int i =>
        cases hb : fb S1 with
        | none => simp [w_some, w_none, w1_some, w1_none, intO, hb]
        | some p =>
          obtain ⟨y, S2⟩ := p
          cases y with
          | fz e => cases e with
            | int j => by_cases h : (okR i && okR j) = true <;> simp only [h, w_some, w_none, w1_some, w1_none, intO, gd, hb] <;> simp [h, hb, w_some, w_none]
            | _ => simp [w_some, w_none, w1_some, w1_none, intO, hb]
          | _ => simp [w_some, w_none, w1_some, w1_none, intO, hb]
      | _ => simp [w_some, w_none, w1_some, w1_none, intO]
    | _ => simp [w_some, w_none, w1_some, w1_none, intO]
theorem w_iZip : W (iZip pb fa fb S) QI ↔ W (fa S) fun x S1 => gd ((pb || x.isFz) = true) (W (fb S1) fun y S2 => W1 (seqD x) fun ds => W1 (seqD y) fun es => QI (zipD ds es) S2) := by
  unfold iZip
  cases fa S with
  | none => simp [w_some, w_none]
  | some p =>
    obtain ⟨x, S1⟩ := p
    by_cases h : (pb || x.isFz) = true
    · cases hb : fb S1 with
      | none => simp [w_some, w_none, gd, hb]
      | some p =>
        obtain ⟨y, S2⟩ := p
        cases hx : seqD x <;> cases hy : seqD y <;> simp only [if_pos h, w_some, w_none, w1_some, w1_none, gd, hb, hx, hy] <;> simp [h, hx, hy]
    · simp only [w_some, w_none, gd]; simp [h, w_none]
theorem w_gFor : W (gFor is fi gv g S) QS ↔ W (fi S) fun ds S1 => W (forL is gv g ds (wipeS is S1)) QS := by
  unfold gFor
  cases fi S with
  | none => simp [w_some, w_none]
  | some p => obtain ⟨o, S1⟩ := p; simp [w_some, w_none]
theorem w_eLc : W (eLc vs fi gv ft f S) Q ↔ W (fi S) fun ds S1 => W (lcL vs gv ft f ds [] S1) fun acc S2 => Q (.ol acc) S2 := by
  unfold eLc
  cases fi S with
  | none => simp [w_some, w_none]
  | some p => obtain ⟨ds, S1⟩ := p; cases hp : lcL vs gv ft f ds [] S1 with
    | none => simp [w_some, w_none, hp]
    | some p => obtain ⟨acc, S2⟩ := p; simp [w_some, w_none, hp]
theorem w_eLc2 {gv2 : GV} {ft2 : EB} : W (eLc2 vs vs1 fi gv ft fj gv2 ft2 f S) Q ↔ W (fi S) fun ds S1 => W (lc2L vs vs1 gv ft fj gv2 ft2 f ds [] S1) fun acc S2 => Q (.ol acc) S2 := by
  unfold eLc2
  cases fi S with
  | none => simp [w_some, w_none]
  | some p => obtain ⟨ds, S1⟩ := p; cases hp : lc2L vs vs1 gv ft fj gv2 ft2 f ds [] S1 with
    | none => simp [w_some, w_none, hp]
    | some p => obtain ⟨acc, S2⟩ := p; simp [w_some, w_none, hp]
theorem w_bYes : W (bYes S) QB ↔ QB true S := by simp [w_some, w_none]
theorem w_bOf : W (bOf f S) QB ↔ W (f S) fun o S1 => W1 (boO o) fun b => QB b S1 := by
  unfold bOf
  cases f S with
  | none => simp [w_some, w_none]
  | some p =>
    obtain ⟨o, S1⟩ := p
    cases o with
    | fz d => cases d <;> simp [w_some, w_none, w1_some, w1_none, boO]
    | _ => simp [w_some, w_none, w1_some, w1_none, boO]
theorem w_bAnd : W (bAnd ta tb S) QB ↔ W (ta S) fun b S1 => br b (W (tb S1) QB) (QB false S1) := by
  unfold bAnd
  cases ta S with
  | none => simp [w_some, w_none]
  | some p => obtain ⟨b, S1⟩ := p; cases b <;> simp [w_some, w_none, br]
theorem w_bOr : W (bOr ta tb S) QB ↔ W (ta S) fun b S1 => br b (QB true S1) (W (tb S1) QB) := by
  unfold bOr
  cases ta S with
  | none => simp [w_some, w_none]
  | some p => obtain ⟨b, S1⟩ := p; cases b <;> simp [w_some, w_none, br]
theorem w_bNot : W (bNot ta S) QB ↔ W (ta S) fun b S1 => QB (!b) S1 := by
  unfold bNot
  cases ta S with
  | none => simp [w_some, w_none]
  | some p => obtain ⟨b, S1⟩ := p; simp [w_some, w_none]
theorem w_eAnd : W (eAnd fa fb S) Q ↔ W (fa S) fun o S1 => W1 (boO o) fun b => br b (W (fb S1) Q) (Q (.fz (.bool false)) S1) := by
  unfold eAnd
  cases fa S with
  | none => simp [w_some, w_none]
  | some p =>
    obtain ⟨o, S1⟩ := p
    cases o with
    | fz d => cases d with
      | bool b => cases b <;> simp [w_some, w_none, w1_some, w1_none, boO, br]
      | _ => simp [w_some, w_none, w1_some, w1_none, boO]
    | _ => simp [w_some, w_none, w1_some, w1_none, boO]
theorem w_eOr : W (eOr fa fb S) Q ↔ W (fa S) fun o S1 => W1 (boO o) fun b => br b (Q (.fz (.bool true)) S1) (W (fb S1) Q) := by
  unfold eOr
  cases fa S with
  | none => simp [w_some, w_none]
  | some p =>
    obtain ⟨o, S1⟩ := p
    cases o with
    | fz d => cases d with
      | bool b => cases b <;> simp [w_some, w_none, w1_some, w1_none, boO, br]
      | _ => simp [w_some, w_none, w1_some, w1_none, boO]
    | _ => simp [w_some, w_none, w1_some, w1_none, boO]
theorem w_eNot : W (eNot fa S) Q ↔ W (fa S) fun o S1 => W1 (boO o) fun b => Q (.fz (.bool (!b))) S1 := by
  unfold eNot
  cases fa S with
  | none => simp [w_some, w_none]
  | some p =>
    obtain ⟨o, S1⟩ := p
    cases o with
    | fz d => cases d <;> simp [w_some, w_none, w1_some, w1_none, boO]
    | _ => simp [w_some, w_none, w1_some, w1_none, boO]
theorem w_eIf : W (eIf ft fa fb S) Q ↔ W (ft S) fun b S1 => br b (W (fa S1) Q) (W (fb S1) Q) := by
  unfold eIf
  cases ft S with
  | none => simp [w_some, w_none]
  | some p => obtain ⟨b, S1⟩ := p; cases b <;> simp [w_some, w_none, br]
theorem w_pNo : W (pNo S) QP ↔ QP none S := by simp [w_some, w_none]
theorem w_pSo : W (pSo f S) QP ↔ W (f S) fun o S1 => W1 (intO o) fun i => QP (some i) S1 := by
  unfold pSo
  cases f S with
  | none => simp [w_some, w_none]
  | some p =>
    obtain ⟨o, S1⟩ := p
    cases o with
    | fz d => cases d <;> simp [w_some, w_none, w1_some, w1_none, intO]
    | _ => simp [w_some, w_none, w1_some, w1_none, intO]
theorem w_eSl : W (eSl pl ph fe fl fh S) Q ↔ W (fe S) fun x S1 => gd (((pl && ph) || x.isFz) = true) (W (fl S1) fun lo S2 => W (fh S2) fun hi S3 => W1 (gSl x lo hi) fun o => Q o S3) := by
  unfold eSl
  cases fe S with
  | none => simp [w_some, w_none]
  | some p =>
    obtain ⟨x, S1⟩ := p
    by_cases h : ((pl && ph) || x.isFz) = true
    · cases hb : fl S1 with
      | none => simp [w_some, w_none, gd, hb]
      | some p =>
        obtain ⟨lo, S2⟩ := p
        cases hc : fh S2 with
        | none => simp [w_some, w_none, gd, hb, hc]
        | some p =>
          obtain ⟨hi, S3⟩ := p
          cases hg : gSl x lo hi <;> simp only [if_pos h, w_some, w_none, w1_some, w1_none, gd, hb, hc, hg] <;> simp [h, hc, hg]
    · simp only [w_some, w_none, gd]; simp [h, w_none]
theorem w_gLR : W (gLR f S) Q ↔ W (f S) fun o S1 => W1 (intO o) fun j => gd ((okR j && decide (j.toNat ≤ 2 ^ 24)) = true) (Q (.ol ((rangeD 0 j.toNat).map OV.fz)) S1) := by
  unfold gLR
  cases f S with
  | none => simp [w_some, w_none]
  | some p =>
    obtain ⟨o, S1⟩ := p
    cases o with
    | fz d => cases d with
      | int j => by_cases h : (okR j && decide (j.toNat ≤ 2 ^ 24)) = true <;> simp only [h, w_some, w_none, w1_some, w1_none, intO, gd] <;> simp [h, w_some, w_none]
      | _ => simp [w_some, w_none, w1_some, w1_none, intO]
    | _ => simp [w_some, w_none, w1_some, w1_none, intO]
theorem w_gTR : W (gTR f S) Q ↔ W (f S) fun o S1 => W1 (intO o) fun j => gd ((okR j && decide (j.toNat ≤ 2 ^ 24)) = true) (Q (.fz (.tuple (rangeD 0 j.toNat))) S1) := by
  unfold gTR
  cases f S with
  | none => simp [w_some, w_none]
  | some p =>
    obtain ⟨o, S1⟩ := p
    cases o with
    | fz d => cases d with
      | int j => by_cases h : (okR j && decide (j.toNat ≤ 2 ^ 24)) = true <;> simp only [h, w_some, w_none, w1_some, w1_none, intO, gd] <;> simp [h, w_some, w_none]
      | _ => simp [w_some, w_none, w1_some, w1_none, intO]
    | _ => simp [w_some, w_none, w1_some, w1_none, intO]
end
end PD
set_option Elab.async false
set_option linter.all false
set_option maxRecDepth 100000
set_option maxHeartbeats 4000000
/-! PDW2: what a mirror gives: changes of own things, loops. -/
namespace PD
open PySem L2
def getL (i : Nat) (S : SS) : Option (List OV) := (getS i S).bind olO
theorem getL_v {xs : List OV} {S : SS} : getL 0 (.v (.ol xs) :: S) = some xs := rfl
theorem getL_io {xs : List OV} {S : SS} : getL 0 (.io (.ol xs) :: S) = some xs := rfl
theorem getL_s {i : Nat} {a : SV} {S : SS} : getL (i + 1) (a :: S) = getL i S := rfl
section
variable {S : SS} {f fa fb fc fe fk fv : EV} {Q : OV → SS → Prop} {QS : Fl → SS → Prop}
  {i j k : Nat} {pb pc : Bool}
theorem w_gApp : W (gApp i f S) QS ↔ gd (isOl i S = true) (W (f S) fun y S1 => W1 (getL i S1) fun xs => gd (xs.length < sizeLine) (QS .nx (modS i (.ol (xs ++ [y])) S1))) := by
  unfold gApp
  by_cases h : isOl i S = true
  · simp only [if_pos h, gd]
    cases hf : f S with
    | none => simp [w_some, w_none, hf]
    | some p =>
      obtain ⟨y, S1⟩ := p
      unfold getL
      cases hg : getS i S1 with
      | none => simp [w_some, w_none, w1_some, w1_none, hf, hg, h]
      | some o =>
        cases o with
        | ol xs => by_cases hl : xs.length < sizeLine <;> simp [w_some, w_none, w1_some, w1_none, hf, hg, h, olO, gd, hl]
        | _ => simp [w_some, w_none, w1_some, w1_none, hf, hg, h, olO]
  · simp [w_some, w_none, gd, h]
theorem w_gIns : W (gIns i fa fb S) QS ↔ gd (isOl i S = true) (W (fa S) fun x S1 => W1 (intO x) fun j => W (fb S1) fun y S2 => W1 (getL i S2) fun xs => gd (xs.length < sizeLine ∧ 0 ≤ j ∧ j < 2 ^ 63) (QS .nx (modS i (.ol (xs.take j.toNat ++ [y] ++ xs.drop j.toNat)) S2))) := by
  unfold gIns
  by_cases h : isOl i S = true
  · simp only [if_pos h, gd]
    cases hf : fa S with
    | none => simp [w_some, w_none, hf]
    | some p =>
      obtain ⟨x, S1⟩ := p
      cases x with
      | fz d => cases d with
        | int j =>
          cases hb : fb S1 with
          | none => simp [w_some, w_none, w1_some, w1_none, intO, hf, hb, h]
          | some p =>
            obtain ⟨y, S2⟩ := p
            unfold getL
            cases hg : getS i S2 with
            | none => simp [w_some, w_none, w1_some, w1_none, intO, hf, hb, hg, h]
            | some o =>
              cases o with
              | ol xs =>
                by_cases hl : xs.length < sizeLine ∧ 0 ≤ j ∧ j < 2 ^ 63
                · simp only [w_some, w_none, w1_some, w1_none, intO, hb, hg, Option.bind_some, olO, gd, if_pos hl]
                  exact ⟨fun z => ⟨h, hl, z⟩, fun z => z.2.2⟩
                · simp only [w_some, w_none, w1_some, w1_none, intO, hb, hg, Option.bind_some, olO, gd, if_neg hl]
                  exact ⟨fun z => z.elim, fun z => hl z.2.1⟩
              | _ => simp [w_some, w_none, w1_some, w1_none, intO, hf, hb, hg, h, olO]
        | _ => simp [w_some, w_none, w1_some, w1_none, intO, hf, h]
      | _ => simp [w_some, w_none, w1_some, w1_none, intO, hf, h]
  · simp [w_some, w_none, gd, h]
theorem w_gExt : W (gExt i f S) QS ↔ gd (isOl i S = true) (W (f S) fun y S1 => W1 (getL i S1) fun xs => W1 (seqX y) fun ds => gd (xs.length + ds.length ≤ sizeLine) (QS .nx (modS i (.ol (xs ++ ds.map OV.fz)) S1))) := by
  unfold gExt
  by_cases h : isOl i S = true
  · simp only [if_pos h, gd]
    cases hf : f S with
    | none => simp [w_some, w_none, hf]
    | some p =>
      obtain ⟨y, S1⟩ := p
      unfold getL
      cases hg : getS i S1 with
      | none => simp [w_some, w_none, w1_some, w1_none, hf, hg, h]
      | some o =>
        cases o with
        | ol xs =>
          cases hs : seqX y with
          | none => simp [w_some, w_none, w1_some, w1_none, hf, hg, h, olO, hs]
          | some ds => by_cases hl : xs.length + ds.length ≤ sizeLine <;> simp [w_some, w_none, w1_some, w1_none, hf, hg, h, olO, gd, hl, hs]
        | _ => simp [w_some, w_none, w1_some, w1_none, hf, hg, h, olO]
  · simp [w_some, w_none, gd, h]
theorem w_gPutIx : W (gPutIx i fv fk S) QS ↔ W (fv S) fun y S1 => gd (isOl i S1 = true) (W (fk S1) fun z S2 => W1 (intO z) fun j => W1 (getL i S2) fun xs => W1 (ixN xs.length j) fun k => QS .nx (modS i (.ol (xs.set k y)) S2)) := by
  unfold gPutIx
  cases fv S with
  | none => simp [w_some, w_none]
  | some p =>
    obtain ⟨y, S1⟩ := p
    by_cases h : isOl i S1 = true
    · cases hk : fk S1 with
      | none => simp [w_some, w_none, gd, h, hk]
      | some p =>
        obtain ⟨z, S2⟩ := p
        cases z with
        | fz d => cases d with
          | int j =>
            unfold getL
            cases hg : getS i S2 with
            | none => simp [w_some, w_none, w1_some, w1_none, intO, hk, hg, h, gd]
            | some o =>
              cases o with
              | ol xs => cases hx : ixN xs.length j <;> simp [w_some, w_none, w1_some, w1_none, intO, hk, hg, h, gd, olO, hx]
              | _ => simp [w_some, w_none, w1_some, w1_none, intO, hk, hg, h, gd, olO]
          | _ => simp [w_some, w_none, w1_some, w1_none, intO, hk, h, gd]
        | _ => simp [w_some, w_none, w1_some, w1_none, intO, hk, h, gd]
    · simp [w_some, w_none, gd, h]
/-- the integer at j of an own list, and its place -/
def intAt (xs : List OV) (j : Int) : Option (Nat × Int) := (ixN xs.length j).bind fun k => (xs[k]?).bind fun o => (intO o).map fun u => (k, u)
theorem w_gAug {g : Int → Int → Int} : W (gAug g i fe S) QS ↔ W1 ((getV i S).bind intO) fun u => W (fe S) fun z S1 => W1 (intO z) fun w => W1 (putS i (.fz (.int (g u w))) S1) fun S2 => QS .nx S2 := by
  unfold gAug getV
  cases hu : S[i]? with
  | none => simp [w_some, w_none, w1_some, w1_none]
  | some u =>
    cases u with
    | v o =>
      cases o with
      | fz d =>
        cases d with
        | int u =>
          cases hf : fe S with
          | none => simp [w_some, w_none, w1_some, w1_none, intO, hf]
          | some p =>
            obtain ⟨z, S1⟩ := p
            cases z with
            | fz d => cases d with
              | int w => cases hp : putS i (.fz (.int (g u w))) S1 <;> simp [-x_putS, w_some, w_none, w1_some, w1_none, intO, hf, hp]
              | _ => simp [w_some, w_none, w1_some, w1_none, intO, hf]
            | _ => simp [w_some, w_none, w1_some, w1_none, intO, hf]
        | _ => simp [w_some, w_none, w1_some, w1_none, intO]
      | _ => simp [w_some, w_none, w1_some, w1_none, intO]
    | _ => simp [w_some, w_none, w1_some, w1_none]
/-- the own list at j of an own list, and its place -/
def olAt (xs : List OV) (j : Int) : Option (Nat × List OV) := (ixN xs.length j).bind fun k => (xs[k]?).bind fun o => (olO o).map fun u => (k, u)
theorem w_gAppIx : W (gAppIx i fk f S) QS ↔ gd (isOl i S = true) (W (fk S) fun z S1 => W1 (intO z) fun j => W1 (getL i S1) fun xs => W1 (olAt xs j) fun k => W (f S1) fun y _ => gd (k.2.length < sizeLine) (QS .nx (modS i (.ol (xs.set k.1 (.ol (k.2 ++ [y])))) S1))) := by
  unfold gAppIx
  by_cases h : isOl i S = true
  · simp only [if_pos h, gd]
    cases hk : fk S with
    | none => simp [w_some, w_none, hk]
    | some p =>
      obtain ⟨z, S1⟩ := p
      cases z with
      | fz d => cases d with
        | int j =>
          unfold getL
          cases hg : getS i S1 with
          | none => simp [w_some, w_none, w1_some, w1_none, intO, hk, hg, h]
          | some o =>
            cases o with
            | ol xs =>
              unfold olAt
              cases hx : ixN xs.length j with
              | none => simp [w_some, w_none, w1_some, w1_none, intO, hk, hg, h, olO, hx]
              | some k =>
                cases hy : xs[k]? with
                | none => simp [w_some, w_none, w1_some, w1_none, intO, hk, hg, h, olO, hx, hy]
                | some u =>
                  cases u with
                  | ol zs =>
                    cases hf : f S1 with
                    | none => simp [w_some, w_none, w1_some, w1_none, intO, hk, hg, h, olO, hx, hy, hf]
                    | some p =>
                      obtain ⟨y, S2⟩ := p
                      by_cases hl : zs.length < sizeLine <;> simp [w_some, w_none, w1_some, w1_none, intO, hk, hg, h, olO, hx, hy, hf, gd, hl]
                  | _ => simp [w_some, w_none, w1_some, w1_none, intO, hk, hg, h, olO, hx, hy]
            | _ => simp [w_some, w_none, w1_some, w1_none, intO, hk, hg, h, olO]
        | _ => simp [w_some, w_none, w1_some, w1_none, intO, hk, h]
      | _ => simp [w_some, w_none, w1_some, w1_none, intO, hk, h]
  · simp [w_some, w_none, gd, h]
theorem w_eNewK : W (eNewK S) Q ↔ Q (.ok [] []) S := by simp [w_some, w_none]
theorem w_eNewT : W (eNewT S) Q ↔ Q (.ot [] []) S := by simp [w_some, w_none]
end
section
variable {is vs vs1 : List Nat} {gv gv2 : GV} {g : SM} {ft ft2 : EB} {f : EV} {fj : EI} {QS : Fl → SS → Prop} {QA : List OV → SS → Prop}
/-- a loop: what holds ahead of each turn -/
theorem w_forL {A : Type} (enc : A → PyData) (I : List A → SS → Prop) {as : List A} {S : SS} (h0 : I as S)
    (step : ∀ a as S, I (a :: as) S → W1 (gv (enc a) S) fun S1 => W (g S1) fun f S2 => lp f (I as (wipeS is S2)) (QS .nx S2) (fun o => QS (.rt o) S2))
    (fin : ∀ S, I [] S → QS .nx S) : W (forL is gv g (as.map enc) S) QS := by
  induction as generalizing S with
  | nil => exact ⟨_, _, rfl, fin S h0⟩
  | cons a as ih =>
    obtain ⟨S1, e1, fl, S2, e2, h⟩ := step a as S h0
    rw [List.map_cons]
    unfold forL
    simp only [e1, e2]
    cases fl with
    | nx => exact ih h
    | ct => exact ih h
    | bk => exact ⟨_, _, rfl, h⟩
    | rt o => exact ⟨_, _, rfl, h⟩
theorem w_lcL {A : Type} (enc : A → PyData) (I : List A → List OV → SS → Prop) {as : List A} {acc : List OV} {S : SS} (h0 : I as acc S)
    (step : ∀ a as acc S, I (a :: as) acc S → W1 (gv (enc a) (wipeS vs S)) fun S1 => W (ft S1) fun b S2 => br b (W (f S2) fun o S3 => gd (acc.length < sizeLine) (I as (acc ++ [o]) (wipeS vs S3))) (I as acc (wipeS vs S2)))
    (fin : ∀ acc S, I [] acc S → QA acc S) : W (lcL vs gv ft f (as.map enc) acc S) QA := by
  induction as generalizing acc S with
  | nil => exact ⟨_, _, rfl, fin acc S h0⟩
  | cons a as ih =>
    obtain ⟨S1, e1, b, S2, e2, h⟩ := step a as acc S h0
    rw [List.map_cons]
    unfold lcL
    simp only [e1, e2]
    cases b with
    | true =>
      obtain ⟨o, S3, e3, hl, h⟩ := h.1 rfl
      simp only [e3, if_pos hl]
      exact ih h
    | false => exact ih (h.2 rfl)
/-- a comprehension that changes nothing but its own names: item by item -/
theorem w_lcMap {A : Type} (enc : A → PyData) (c : A → Bool) (o : A → OV) {as : List A} {S : SS}
    (h : ∀ a ∈ as, W1 (gv (enc a) (wipeS vs S)) fun S1 => W (ft S1) fun b S2 => b = c a ∧ (c a = true → W (f S2) fun o' S3 => o' = o a ∧ wipeS vs S3 = wipeS vs S) ∧ (c a = false → wipeS vs S2 = wipeS vs S))
    (hz : as.length ≤ sizeLine) (q : QA ((as.filter c).map o) (if as.isEmpty then S else wipeS vs S)) : W (lcL vs gv ft f (as.map enc) [] S) QA := by
  refine ⟨_, _, lcL_map enc c o as [] S (fun a ha => ?_) (by simpa using hz), by simpa using q⟩
  obtain ⟨S1, e1, b, S2, e2, rfl, h1, h2⟩ := h a ha
  refine ⟨S1, S2, e1, e2, fun z => ?_, h2⟩
  obtain ⟨o', S3, e3, rfl, h3⟩ := h1 z
  exact ⟨S3, e3, h3⟩
end
/-! ### operations on values -/
theorem v_add {i j : Int} : gAddX (.fz (.int i)) (.fz (.int j)) = some (.fz (.int (i + j))) := rfl
theorem v_sub {i j : Int} : gSub (.fz (.int i)) (.fz (.int j)) = some (.fz (.int (i - j))) := rfl
theorem v_neg {i : Int} : gNeg (.fz (.int i)) = some (.fz (.int (-i))) := rfl
theorem v_lt {i j : Int} : gLt (.fz (.int i)) (.fz (.int j)) = some (.fz (.bool (decide (i < j)))) := rfl
theorem v_le {i j : Int} : gLe (.fz (.int i)) (.fz (.int j)) = some (.fz (.bool (decide (i ≤ j)))) := rfl
theorem v_gt {i j : Int} : gGt (.fz (.int i)) (.fz (.int j)) = some (.fz (.bool (decide (j < i)))) := rfl
theorem v_ge {i j : Int} : gGe (.fz (.int i)) (.fz (.int j)) = some (.fz (.bool (decide (j ≤ i)))) := rfl
theorem v_eq {i j : Int} : gEq (.fz (.int i)) (.fz (.int j)) = some (.fz (.bool (decide (i = j)))) := by
  simp [gEq]
  by_cases h : i = j <;> simp [h]
theorem v_ne {i j : Int} : gNe (.fz (.int i)) (.fz (.int j)) = some (.fz (.bool (!decide (i = j)))) := by
  simp [gNe]
  by_cases h : i = j <;> simp [h]
theorem v_isN {x : OV} : gIsN x (.fz .none) = some (.fz (.bool (isN x))) := rfl
theorem v_notN {x : OV} : gNotN x (.fz .none) = some (.fz (.bool (!isN x))) := rfl
theorem isN_fn : isN (.fz .none) = true := rfl
theorem isN_fi {i : Int} : isN (.fz (.int i)) = false := rfl
theorem isN_ft {ds : List PyData} : isN (.fz (.tuple ds)) = false := rfl
theorem isN_fl {ds : List PyData} : isN (.fz (.list ds)) = false := rfl
theorem v_mul {i j : Int} : gMulX (.fz (.int i)) (.fz (.int j)) = if okMul i j then some (.fz (.int (i * j))) else none := rfl
theorem v_div {i j : Int} : gDiv (.fz (.int i)) (.fz (.int j)) = if okDiv i j then some (.fz (.int (i / j))) else none := rfl
theorem v_mod {i j : Int} : gMod (.fz (.int i)) (.fz (.int j)) = if decide (0 < j) then some (.fz (.int (i % j))) else none := rfl
theorem v_tup0 : gTup' [] = some (.fz (.tuple [])) := rfl
theorem v_tup1 {a : PyData} : gTup' [.fz a] = some (.fz (.tuple [a])) := rfl
theorem v_tup2 {a b : PyData} : gTup' [.fz a, .fz b] = some (.fz (.tuple [a, b])) := rfl
theorem v_tup3 {a b c : PyData} : gTup' [.fz a, .fz b, .fz c] = some (.fz (.tuple [a, b, c])) := rfl
theorem v_tup4 {a b c d : PyData} : gTup' [.fz a, .fz b, .fz c, .fz d] = some (.fz (.tuple [a, b, c, d])) := rfl
theorem v_lst0 : gLst' [] = some (.ol []) := rfl
theorem v_lst (xs : List PyData) (h : xs.length ≤ sizeLine) : gLst' (xs.map OV.fz) = some (.ol (xs.map OV.fz)) := by
  unfold gLst'
  rw [allFz_fz]
  simp [h]
theorem v_lst1 {a : PyData} : gLst' [.fz a] = some (.ol [.fz a]) := rfl
theorem v_lst2 {a b : PyData} : gLst' [.fz a, .fz b] = some (.ol [.fz a, .fz b]) := rfl
theorem v_lst3 {a b c : PyData} : gLst' [.fz a, .fz b, .fz c] = some (.ol [.fz a, .fz b, .fz c]) := rfl
theorem v_lst4 {a b c d : PyData} : gLst' [.fz a, .fz b, .fz c, .fz d] = some (.ol [.fz a, .fz b, .fz c, .fz d]) := rfl
theorem v_lst5 {a b c d e : PyData} : gLst' [.fz a, .fz b, .fz c, .fz d, .fz e] = some (.ol [.fz a, .fz b, .fz c, .fz d, .fz e]) := rfl
theorem v_lst6 {a b c d e f : PyData} : gLst' [.fz a, .fz b, .fz c, .fz d, .fz e, .fz f] = some (.ol [.fz a, .fz b, .fz c, .fz d, .fz e, .fz f]) := rfl
theorem v_lst7 {a b c d e f g : PyData} : gLst' [.fz a, .fz b, .fz c, .fz d, .fz e, .fz f, .fz g] = some (.ol [.fz a, .fz b, .fz c, .fz d, .fz e, .fz f, .fz g]) := rfl
theorem v_lst8 {a b c d e f g h : PyData} : gLst' [.fz a, .fz b, .fz c, .fz d, .fz e, .fz f, .fz g, .fz h] = some (.ol [.fz a, .fz b, .fz c, .fz d, .fz e, .fz f, .fz g, .fz h]) := rfl
theorem v_lst9 {a b c d e f g h i : PyData} : gLst' [.fz a, .fz b, .fz c, .fz d, .fz e, .fz f, .fz g, .fz h, .fz i] = some (.ol [.fz a, .fz b, .fz c, .fz d, .fz e, .fz f, .fz g, .fz h, .fz i]) := rfl
theorem v_lst10 {a b c d e f g h i j : PyData} : gLst' [.fz a, .fz b, .fz c, .fz d, .fz e, .fz f, .fz g, .fz h, .fz i, .fz j] = some (.ol [.fz a, .fz b, .fz c, .fz d, .fz e, .fz f, .fz g, .fz h, .fz i, .fz j]) := rfl
theorem ixN_s {n : Nat} {k : Nat} (h : k < n) : ixN n (k : Int) = some k := by
  unfold ixN
  simp [h]
theorem atI_s {α : Type} {xs : List α} {k : Nat} (h : k < xs.length) : atI xs (k : Int) = some xs[k] := by
  unfold atI
  rw [ixN_s h]
  simp [h]
theorem ix_list {ds : List PyData} {k : Nat} (h : k < ds.length) : gIx (.fz (.list ds)) (.fz (.int (k : Int))) = some (.fz ds[k]) := by
  show (atI ds (k : Int)).map OV.fz = _
  rw [atI_s h]
  rfl
theorem ix_tup {ds : List PyData} {k : Nat} (h : k < ds.length) : gIx (.fz (.tuple ds)) (.fz (.int (k : Int))) = some (.fz ds[k]) := by
  show (atI ds (k : Int)).map OV.fz = _
  rw [atI_s h]
  rfl
theorem ix_ol {ds : List PyData} {k : Nat} (h : k < ds.length) : gIx (.ol (ds.map OV.fz)) (.fz (.int (k : Int))) = some (.fz ds[k]) := by
  have : atI (ds.map OV.fz) (k : Int) = some (.fz ds[k]) := by rw [atI_s (show k < (ds.map OV.fz).length by simpa using h)]; simp
  show (match atI (ds.map OV.fz) (k : Int) with
      | some (OV.fz d) => some (OV.fz d)
      | _ => none) = _
  rw [this]
theorem ix_t0 {a : PyData} {r : List PyData} : gIx (.fz (.tuple (a :: r))) (.fz (.int 0)) = some (.fz a) := ix_tup (k := 0) (ds := a :: r) (by simp)
theorem ix_t1 {a b : PyData} {r : List PyData} : gIx (.fz (.tuple (a :: b :: r))) (.fz (.int 1)) = some (.fz b) := ix_tup (k := 1) (ds := a :: b :: r) (by simp)
theorem ix_t2 {a b c : PyData} {r : List PyData} : gIx (.fz (.tuple (a :: b :: c :: r))) (.fz (.int 2)) = some (.fz c) := ix_tup (k := 2) (ds := a :: b :: c :: r) (by simp)
theorem v_len_l {ds : List PyData} : g1 gLen [.fz (.list ds)] = some (.fz (.int ds.length)) := rfl
theorem v_len_t {ds : List PyData} : g1 gLen [.fz (.tuple ds)] = some (.fz (.int ds.length)) := rfl
theorem v_len_o {ds : List OV} : g1 gLen [.ol ds] = some (.fz (.int ds.length)) := rfl
theorem v_int {i : Int} : g1 gInt [.fz (.int i)] = some (.fz (.int i)) := rfl
theorem v_abs {i : Int} : g1 gAbs [.fz (.int i)] = some (.fz (.int (if i < 0 then -i else i))) := rfl
theorem v_tuple {ds : List PyData} : g1 gTuple [.ol (ds.map OV.fz)] = some (.fz (.tuple ds)) := by
  show (allFz (ds.map OV.fz)).map _ = _
  rw [allFz_fz]
  rfl
theorem v_tuple0 : g1 gTuple [.ol []] = some (.fz (.tuple [])) := rfl
theorem v_list {ds : List PyData} : g1 gList [.fz (.tuple ds)] = some (.ol (ds.map OV.fz)) := rfl
theorem seqD_t {ds : List PyData} : seqD (.fz (.tuple ds)) = some ds := rfl
theorem seqD_l {ds : List PyData} : seqD (.fz (.list ds)) = some ds := rfl
theorem seqX_t {ds : List PyData} : seqX (.fz (.tuple ds)) = some ds := rfl
theorem seqX_l {ds : List PyData} : seqX (.fz (.list ds)) = some ds := rfl
theorem seqX_o {ds : List PyData} : seqX (.ol (ds.map OV.fz)) = some ds := allFz_fz ds
theorem er_fz {d : PyData} : (OV.fz d).erase = d := x_erase_fz
theorem er_ol {ds : List PyData} : (OV.ol (ds.map OV.fz)).erase = .list ds := by rw [x_erase_ol, List.map_map]; simp [Function.comp_def]
theorem er_ol0 : (OV.ol []).erase = .list [] := by simp
theorem fz_fz {d : PyData} : (OV.fz d).isFz = true := rfl
theorem fz_ol {xs : List OV} : (OV.ol xs).isFz = false := rfl
theorem v_cat {a b : List PyData} : gAddX (.fz (.tuple a)) (.fz (.tuple b)) = if a.length + b.length ≤ sizeLine then some (.fz (.tuple (a ++ b))) else none := rfl
theorem v_catL {a b : List PyData} : gAddX (.ol (a.map OV.fz)) (.ol (b.map OV.fz)) = if a.length + b.length ≤ sizeLine then some (.ol ((a ++ b).map OV.fz)) else none := by
  have i1 : itemsL (.ol (a.map OV.fz)) = some a := allFz_fz a
  have i2 : itemsL (.ol (b.map OV.fz)) = some b := allFz_fz b
  unfold gAddX
  simp only [i1, i2]
theorem ioAt_1 {d : PyData} {qs : List (Option PyData)} : ioAt (some d :: qs) = (ioAt qs).map (· + 1) := rfl
theorem ioAt_0 {qs : List (Option PyData)} : ioAt (none :: qs) = if qs.all (·.isSome) then some 0 else none := rfl
theorem opt_map_some {α β : Type} {f : α → β} {a : α} : (some a).map f = some (f a) := rfl
theorem opt_map_none {α β : Type} {f : α → β} : (none : Option α).map f = none := rfl
theorem cb_some {m : Mir} {ds : List PyData} : gCallF m (ds.map OV.fz) = (m (ds.map OV.fz)).map (·.1) := by
  unfold gCallF
  rw [allFz_fz]
  simp only
  cases m (ds.map OV.fz) with
  | none => rfl
  | some p => obtain ⟨r, a⟩ := p; rfl
theorem cf1 {m : Mir} {a : PyData} : gCallF m [.fz a] = (m [.fz a]).map (·.1) := cb_some (ds := [a])
theorem cf0 {m : Mir} : gCallF m [] = (m []).map (·.1) := cb_some (ds := [])
theorem cf2 {m : Mir} {a b : PyData} : gCallF m [.fz a, .fz b] = (m [.fz a, .fz b]).map (·.1) := cb_some (ds := [a, b])
theorem cf3 {m : Mir} {a b c : PyData} : gCallF m [.fz a, .fz b, .fz c] = (m [.fz a, .fz b, .fz c]).map (·.1) := cb_some (ds := [a, b, c])
theorem cf4 {m : Mir} {a b c d : PyData} : gCallF m [.fz a, .fz b, .fz c, .fz d] = (m [.fz a, .fz b, .fz c, .fz d]).map (·.1) := cb_some (ds := [a, b, c, d])
theorem w1_fst {β : Type} {x : Option (OV × β)} {Q : OV → Prop} : W1 (x.map (·.1)) Q ↔ W x fun a _ => Q a := by
  cases x with
  | none => simp [w_none, w1_none]
  | some p => obtain ⟨a, b⟩ := p; simp [w_some, w1_some]
/-! ### the engine -/
theorem w_seq {g1 g2 : SM} {S : SS} {QS : Fl → SS → Prop} (R : SS → Prop) (h : W (g1 S) fun f S1 => f = .nx ∧ R S1) (q : ∀ S1, R S1 → W (g2 S1) QS) : W (gSeq g1 g2 S) QS := by
  rw [w_gSeq]
  refine h.mono fun f S1 ⟨e, r⟩ => ?_
  subst e
  rw [nx_nx]
  exact q S1 r
theorem w_last {g : SM} {S : SS} {QS : Fl → SS → Prop} (R : SS → Prop) (h : W (g S) fun f S1 => f = .nx ∧ R S1) (q : ∀ S1, R S1 → QS .nx S1) : W (g S) QS := by
  refine h.mono fun f S1 ⟨e, r⟩ => ?_
  subst e
  exact q S1 r
theorem w_mid {α β : Type} {x : Option (α × β)} {Q : α → β → Prop} (R : α → β → Prop) (h : W x R) (q : ∀ a b, R a b → Q a b) : W x Q := h.mono q
end PD
local macro_rules
  | `(tactic| simp_arith) => `(tactic| simp only [PD.w_some, PD.w_none, PD.w1_some, PD.w1_none, PD.gd_true, PD.br_true, PD.br_false, PD.nx_nx, PD.nx_rt, PD.nx_ct, PD.nx_bk, PD.lp_nx, PD.lp_ct, PD.lp_bk, PD.lp_rt, PD.fzO_fz, PD.intO_int, PD.boO_bool, PD.olO_ol, PD.getV_0, PD.getV_s, PD.getS_v, PD.getS_io, PD.getS_s, PD.isOl_v, PD.isOl_io, PD.isOl_s, PD.modS_v, PD.modS_io, PD.modS_s, PD.putS_v, PD.putS_un, PD.putS_s, PD.set_0, PD.set_s, PD.wipeS_nil, PD.wipeS_cons, PD.isV_v, PD.isV_io, PD.isV_s, PD.qArgs_nil, PD.qArgs_some, PD.qArgs_none, PD.endv_rt, PD.endv_nx, PD.getL_v, PD.getL_io, PD.getL_s, PD.w_oFz, PD.w_oFr, PD.w_eVar, PD.w_eMov, PD.w_eTake, PD.w_eC, PD.w_aNil, PD.w_aCons, PD.w_aStar, PD.w_eBin, PD.w_eUn, PD.w_eCall, PD.w_gNx, PD.w_gBk, PD.w_gCt, PD.w_gNo, PD.w_gSeq, PD.w_gDrop, PD.w_gRet, PD.w_gRetV, PD.w_gRetN, PD.w_gIf, PD.w_gSet, PD.w_gMove, PD.w_tgN, PD.w_tgNil, PD.w_tgCons, PD.w_tgT, PD.w_gAsg, PD.w_gPar, PD.w_fnM, PD.w_qNil, PD.w_qFz, PD.w_qIo, PD.w_eIo, PD.w_iSeq, PD.w_iEnum, PD.w_iRange1, PD.w_iRange2, PD.w_iZip, PD.w_gFor, PD.w_eLc, PD.w_eLc2, PD.w_bYes, PD.w_bOf, PD.w_bAnd, PD.w_bOr, PD.w_bNot, PD.w_eAnd, PD.w_eOr, PD.w_eNot, PD.w_eIf, PD.w_pNo, PD.w_pSo, PD.w_eSl, PD.w_gLR, PD.w_gTR, PD.w_gApp, PD.w_gIns, PD.w_gExt, PD.w_gPutIx, PD.w_gAug, PD.w_gAppIx, PD.w_eNewK, PD.w_eNewT, PD.v_mul, PD.v_div, PD.v_mod, PD.w1_ite, PD.v_add, PD.v_sub, PD.v_neg, PD.v_lt, PD.v_le, PD.v_gt, PD.v_ge, PD.v_eq, PD.v_ne, PD.v_isN, PD.v_notN, PD.isN_fn, PD.isN_fi, PD.isN_ft, PD.isN_fl, PD.v_tup0, PD.v_tup1, PD.v_tup2, PD.v_tup3, PD.v_tup4, PD.v_lst0, PD.v_lst1, PD.v_lst2, PD.v_lst3, PD.v_lst4, PD.v_lst5, PD.v_lst6, PD.v_lst7, PD.v_lst8, PD.v_lst9, PD.v_lst10, PD.ix_t0, PD.ix_t1, PD.ix_t2, PD.v_len_l, PD.v_len_t, PD.v_len_o, PD.v_int, PD.v_tuple, PD.v_tuple0, PD.v_list, PD.seqD_t, PD.seqD_l, PD.seqX_t, PD.seqX_l, PD.seqX_o, PD.er_fz, PD.er_ol, PD.er_ol0, PD.fz_fz, PD.fz_ol, PD.ioAt_1, PD.ioAt_0, PD.opt_map_some, PD.opt_map_none, PD.cf0, PD.cf1, PD.cf2, PD.cf3, PD.cf4, PD.w1_fst, Bool.true_or, Bool.or_true, Bool.false_or, Bool.or_false, Bool.true_and, Bool.false_and, Bool.not_true, Bool.not_false, List.all_cons, List.all_nil, PD.isSome_some, if_true, reduceIte, List.length_cons, List.length_nil, List.map_cons, List.map_nil, List.replicate_succ, List.replicate_zero, List.cons_append, List.nil_append, Nat.reduceAdd, Nat.reduceSub, Nat.reduceEqDiff, PD.x_entry_fz, PD.x_entry_ol, PD.x_ioOk_nil, PD.x_ioOk_fz, PD.x_ioOk_ol, PD.x_outs_nil, PD.x_outs_fz, PD.x_outs_ol, List.getElem?_cons_zero, List.getElem?_cons_succ, Option.bind_some, Option.map_some, Option.some.injEq, exists_eq_left', eq_self, and_true, true_and])
  | `(tactic| simp_arith [$ls,*]) => `(tactic| simp only [PD.w_some, PD.w_none, PD.w1_some, PD.w1_none, PD.gd_true, PD.br_true, PD.br_false, PD.nx_nx, PD.nx_rt, PD.nx_ct, PD.nx_bk, PD.lp_nx, PD.lp_ct, PD.lp_bk, PD.lp_rt, PD.fzO_fz, PD.intO_int, PD.boO_bool, PD.olO_ol, PD.getV_0, PD.getV_s, PD.getS_v, PD.getS_io, PD.getS_s, PD.isOl_v, PD.isOl_io, PD.isOl_s, PD.modS_v, PD.modS_io, PD.modS_s, PD.putS_v, PD.putS_un, PD.putS_s, PD.set_0, PD.set_s, PD.wipeS_nil, PD.wipeS_cons, PD.isV_v, PD.isV_io, PD.isV_s, PD.qArgs_nil, PD.qArgs_some, PD.qArgs_none, PD.endv_rt, PD.endv_nx, PD.getL_v, PD.getL_io, PD.getL_s, PD.w_oFz, PD.w_oFr, PD.w_eVar, PD.w_eMov, PD.w_eTake, PD.w_eC, PD.w_aNil, PD.w_aCons, PD.w_aStar, PD.w_eBin, PD.w_eUn, PD.w_eCall, PD.w_gNx, PD.w_gBk, PD.w_gCt, PD.w_gNo, PD.w_gSeq, PD.w_gDrop, PD.w_gRet, PD.w_gRetV, PD.w_gRetN, PD.w_gIf, PD.w_gSet, PD.w_gMove, PD.w_tgN, PD.w_tgNil, PD.w_tgCons, PD.w_tgT, PD.w_gAsg, PD.w_gPar, PD.w_fnM, PD.w_qNil, PD.w_qFz, PD.w_qIo, PD.w_eIo, PD.w_iSeq, PD.w_iEnum, PD.w_iRange1, PD.w_iRange2, PD.w_iZip, PD.w_gFor, PD.w_eLc, PD.w_eLc2, PD.w_bYes, PD.w_bOf, PD.w_bAnd, PD.w_bOr, PD.w_bNot, PD.w_eAnd, PD.w_eOr, PD.w_eNot, PD.w_eIf, PD.w_pNo, PD.w_pSo, PD.w_eSl, PD.w_gLR, PD.w_gTR, PD.w_gApp, PD.w_gIns, PD.w_gExt, PD.w_gPutIx, PD.w_gAug, PD.w_gAppIx, PD.w_eNewK, PD.w_eNewT, PD.v_mul, PD.v_div, PD.v_mod, PD.w1_ite, PD.v_add, PD.v_sub, PD.v_neg, PD.v_lt, PD.v_le, PD.v_gt, PD.v_ge, PD.v_eq, PD.v_ne, PD.v_isN, PD.v_notN, PD.isN_fn, PD.isN_fi, PD.isN_ft, PD.isN_fl, PD.v_tup0, PD.v_tup1, PD.v_tup2, PD.v_tup3, PD.v_tup4, PD.v_lst0, PD.v_lst1, PD.v_lst2, PD.v_lst3, PD.v_lst4, PD.v_lst5, PD.v_lst6, PD.v_lst7, PD.v_lst8, PD.v_lst9, PD.v_lst10, PD.ix_t0, PD.ix_t1, PD.ix_t2, PD.v_len_l, PD.v_len_t, PD.v_len_o, PD.v_int, PD.v_tuple, PD.v_tuple0, PD.v_list, PD.seqD_t, PD.seqD_l, PD.seqX_t, PD.seqX_l, PD.seqX_o, PD.er_fz, PD.er_ol, PD.er_ol0, PD.fz_fz, PD.fz_ol, PD.ioAt_1, PD.ioAt_0, PD.opt_map_some, PD.opt_map_none, PD.cf0, PD.cf1, PD.cf2, PD.cf3, PD.cf4, PD.w1_fst, Bool.true_or, Bool.or_true, Bool.false_or, Bool.or_false, Bool.true_and, Bool.false_and, Bool.not_true, Bool.not_false, List.all_cons, List.all_nil, PD.isSome_some, if_true, reduceIte, List.length_cons, List.length_nil, List.map_cons, List.map_nil, List.replicate_succ, List.replicate_zero, List.cons_append, List.nil_append, Nat.reduceAdd, Nat.reduceSub, Nat.reduceEqDiff, PD.x_entry_fz, PD.x_entry_ol, PD.x_ioOk_nil, PD.x_ioOk_fz, PD.x_ioOk_ol, PD.x_outs_nil, PD.x_outs_fz, PD.x_outs_ol, List.getElem?_cons_zero, List.getElem?_cons_succ, Option.bind_some, Option.map_some, Option.some.injEq, exists_eq_left', eq_self, and_true, true_and, $ls,*])
set_option Elab.async false
set_option linter.all false
set_option maxRecDepth 100000
set_option maxHeartbeats 4000000
set_option exponentiation.threshold 5000
namespace PD
open PySem L2 PD.G
/-- a bag, at most k draws on -/
structure Bk (k : Nat) (b : Bag) : Prop where
  ok : BgOk b
  ix : b.idx ≤ k
theorem Bk.mono {k l : Nat} {b : Bag} (h : Bk k b) (hl : k ≤ l) : Bk l b := ⟨h.ok, by have := h.ix; omega⟩
variable {k : Nat} {b : Bag} {Q : OV → List OV → Prop}
theorem w_take (h : Bk k b) (hk : k < 2 ^ 50) {many : Int} (h0 : 0 < many) (h1 : many < 2 ^ 50) (q : ∀ v b', Bk (k + 1) b' → 0 ≤ v → v < many → Q (.fz (.int v)) [encB b', .fz (.int many)]) :
    W (m__law_take [encB b, .fz (.int many)]) Q := by
  have := h.ix
  obtain ⟨v, b', e, o, i, v0, v1⟩ := take_run h.ok (by omega) h0 (by omega)
  exact ⟨_, _, e, q v b' ⟨o, by push_cast; omega⟩ v0 v1⟩
theorem w_some' (h : Bk k b) (hk : k < 2 ^ 50) {xs : List PyData} (h0 : xs ≠ []) (h1 : xs.length < 2 ^ 50) (q : ∀ x b', Bk (k + 1) b' → x ∈ xs → Q (.fz x) [encB b', .fz (.list xs)]) :
    W (m__law_some [encB b, .fz (.list xs)]) Q := by
  have := h.ix
  obtain ⟨v, b', e, o, i, m⟩ := some_run h.ok (by omega) h0 (by omega)
  exact ⟨_, _, e, q v b' ⟨o, by push_cast; omega⟩ m⟩
theorem w_someI (is : List Int) (h : Bk k b) (hk : k < 2 ^ 50) (h0 : is ≠ []) (h1 : is.length ≤ 100) (q : ∀ x b', Bk (k + 1) b' → x ∈ is → Q (.fz (.int x)) [encB b', .fz (.list (is.map PyData.int))]) :
    W (m__law_some [encB b, .fz (.list (is.map PyData.int))]) Q := by
  have := h.ix
  obtain ⟨v, b', e, o, i, m⟩ := someI_run h.ok (by omega) h0 h1
  exact ⟨_, _, e, q v b' ⟨o, by push_cast; omega⟩ m⟩
theorem w_bounds (h : Bk k b) (hk : k < 2 ^ 50) {u : Int} (h0 : -1000 ≤ u) (h1 : u ≤ 1000) (q : ∀ g b', Bk (k + 1) b' → (∀ x, g = some x → u ≤ x ∧ x ≤ u + 3) → Q (.fz (.tuple [.int u, encO g])) [encB b', .fz (.int u)]) :
    W (m__law_bounds [encB b, .fz (.int u)]) Q := by
  have := h.ix
  obtain ⟨g, b', e, o, i, m⟩ := bounds_run h.ok (by omega) h0 h1
  exact ⟨_, _, e, q g b' ⟨o, by push_cast; omega⟩ m⟩
theorem w_any_side (h : Bk k b) (hk : k < 2 ^ 50) {many : Int} (h0 : 0 < many) (h1 : many ≤ 100) (q : ∀ s b', Bk (k + 3) b' → 0 ≤ s.1 → s.1 < many → SideOk s → Q (.fz (encS s)) [encB b', .fz (.int many)]) :
    W (m__law_any_side [encB b, .fz (.int many)]) Q := by
  have := h.ix
  obtain ⟨s, b', e, o, i, m1, m2, m3, m4, m5⟩ := any_side_run h.ok (by omega) h0 h1
  exact ⟨_, _, e, q s b' ⟨o, by push_cast; omega⟩ m1 m2 ⟨by omega, by omega, fun x hx => by have := m5 x hx; omega⟩⟩
/-- a row of a table of so many unknowns -/
structure RowU (many : Int) (r : Row) : Prop where
  ok : RowD r
  rng : ∀ s ∈ r.1, 0 ≤ s.1 ∧ s.1 < many
theorem okR_of {i : Int} (h0 : -1000000 ≤ i) (h1 : i ≤ 1000000) : okR i = true := decide_eq_true ⟨by omega, by omega⟩
theorem rangeD_len (lo : Int) (n : Nat) : (rangeD lo n).length = n := by simp [rangeD]
theorem map_id' (ds : List PyData) : ds.map (fun d => d) = ds := by simp
theorem w_any_row (h : Bk k b) (hk : k < 2 ^ 49) {many : Int} (h0 : 0 ≤ many) (h1 : many ≤ 100) (q : ∀ r b', Bk (k + 40) b' → RowU many r → Q (.fz (encRow r)) [encB b', .fz (.int many)]) :
    W (m__law_any_row [encB b, .fz (.int many)]) Q := by
  unfold m__law_any_row
  simp_arith [encB_entry, encB_fz, encB_io, encB_outs]
  unfold mb__law_any_row
  refine w_seq (fun S1 => ∃ v b', S1 = [.io (encB b'), .v (.fz (.int many)), .v (.fz (.int v)), .un, .un, .un] ∧ Bk (k + 2) b' ∧ 0 ≤ v ∧ v ≤ 8 ∧ (0 < v → 0 < many)) ?_ ?_
  · simp_arith [encB_entry, encB_fz, encB_io, encB_outs]
    refine br_dec (fun hm => ?_) fun hm => ?_
    · simp_arith [encB_entry, encB_fz, encB_io, encB_outs]
      refine w_someI [2, 4, 6, 9] h (by omega) (by simp) (by simp) fun x b1 hb1 hx => ?_
      simp_arith [encB_entry, encB_fz, encB_io, encB_outs]
      simp only [List.mem_cons, List.not_mem_nil, or_false] at hx
      refine w_take hb1 (by omega) (by omega) (by omega) fun v b2 hb2 v0 v1 => ?_
      simp_arith [encB_entry, encB_fz, encB_io, encB_outs]
      exact ⟨v, b2, rfl, hb2, v0, by omega, fun _ => hm⟩
    · simp_arith [encB_entry, encB_fz, encB_io, encB_outs]
      exact ⟨0, b, rfl, h.mono (by omega), by omega, by omega, fun z => by omega⟩
  rintro _ ⟨v, b1, rfl, hb1, v0, v1, v2⟩
  refine w_seq (fun S1 => ∃ (ss : List Side) (b' : Bag), S1 = [.io (encB b'), .v (.fz (.int many)), .v (.fz (.int v)), .v (.ol ((ss.map encS).map OV.fz)), .un, .un] ∧ Bk (k + 30) b' ∧ ss.length ≤ 8 ∧ ∀ s ∈ ss, SideOk s ∧ 0 ≤ s.1 ∧ s.1 < many) ?_ ?_
  · simp_arith [encB_entry, encB_fz, encB_io, encB_outs]
    refine gd_of (okR_of (by omega) (by omega)) ?_
    refine w_lcL (fun i : Nat => .int (0 + (i : Int))) (fun rest acc S => ∃ (ss : List Side) (b' : Bag), S = [.io (encB b'), .v (.fz (.int many)), .v (.fz (.int v)), .un, .un, .un] ∧ acc = (ss.map encS).map OV.fz ∧ Bk (k + 2 + 3 * ss.length) b' ∧ ss.length + rest.length = v.toNat ∧ ∀ s ∈ ss, SideOk s ∧ 0 ≤ s.1 ∧ s.1 < many) (as := List.range v.toNat) ⟨[], b1, rfl, rfl, hb1, by simp, fun _ h => nomatch h⟩ ?_ ?_
    · rintro a as acc _ ⟨ss, b2, rfl, rfl, hb2, hl, hs⟩
      simp only [List.length_cons] at hl
      unfold ce__law_any_row_1
      simp_arith [encB_entry, encB_fz, encB_io, encB_outs]
      refine w_any_side hb2 (by omega) (v2 (by omega)) h1 fun s b3 hb3 s0 s1 so => ?_
      simp_arith [encB_entry, encB_fz, encB_io, encB_outs]
      refine gd_of (by rw [x_size]; simp; omega) ⟨ss ++ [s], b3, rfl, by simp, hb3.mono (by simp; omega), by simp; omega, fun x hx => ?_⟩
      rcases List.mem_append.1 hx with hx | hx
      · exact hs x hx
      · simp at hx; subst hx; exact ⟨so, s0, s1⟩
    · rintro _ _ ⟨ss, b2, rfl, rfl, hb2, hl, hs⟩
      simp_arith [encB_entry, encB_fz, encB_io, encB_outs]
      simp only [List.length_nil] at hl
      exact ⟨ss, b2, rfl, hb2.mono (by omega), by omega, hs⟩
  rintro _ ⟨ss, b2, rfl, hb2, hl, hs⟩
  refine w_seq (fun S1 => ∃ rt b', S1 = [.io (encB b'), .v (.fz (.int many)), .v (.fz (.int v)), .v (.ol ((ss.map encS).map OV.fz)), .v (.fz (encRt rt)), .un] ∧ Bk (k + 40) b' ∧ ∀ p, rt = some p → SideOk (0, p)) ?_ ?_
  · simp_arith [encB_entry, encB_fz, encB_io, encB_outs]
    refine w_take hb2 (by omega) (by omega) (by omega) fun w b3 hb3 w0 w1 => ?_
    simp_arith [encB_entry, encB_fz, encB_io, encB_outs]
    refine br_dec (fun hw => ?_) fun hw => ?_
    · simp_arith [encB_entry, encB_fz, encB_io, encB_outs]
      refine w_someI [0, 1, -2, 3] hb3 (by omega) (by simp) (by simp) fun x b4 hb4 hx => ?_
      simp_arith [encB_entry, encB_fz, encB_io, encB_outs]
      simp only [List.mem_cons, List.not_mem_nil, or_false] at hx
      refine w_bounds hb4 (by omega) (by omega) (by omega) fun g b5 hb5 hg => ?_
      simp_arith [encB_entry, encB_fz, encB_io, encB_outs]
      refine ⟨some (x, g), b5, rfl, hb5.mono (by omega), fun p hp => ?_⟩
      cases hp
      exact ⟨by show -100 ≤ x; omega, by show x ≤ 100; omega, fun y hy => by have := hg y hy; show x ≤ y ∧ y ≤ x + 50; omega⟩
    · simp_arith [encB_entry, encB_fz, encB_io, encB_outs]
      exact ⟨none, b3, rfl, hb3.mono (by omega), fun p hp => nomatch hp⟩
  rintro _ ⟨rt, b3, rfl, hb3, hr⟩
  simp_arith [encB_entry, encB_fz, encB_io, encB_outs]
  exact q (ss, rt) b3 hb3 ⟨⟨fun s hs' => (hs s hs').1, by show ss.length ≤ 9; omega, hr⟩, fun s hs' => (hs s hs').2⟩
end PD
set_option Elab.async false
set_option linter.all false
set_option maxRecDepth 100000
set_option maxHeartbeats 4000000
set_option exponentiation.threshold 5000
namespace PD
open PySem L2 PD.G
variable {k : Nat} {b : Bag} {Q : OV → List OV → Prop}
theorem cat12 {x y z : PyData} : gAddX (.fz (.tuple [x])) (.fz (.tuple [y, z])) = some (.fz (.tuple [x, y, z])) := rfl
theorem w_any_table (h : Bk k b) (hk : k < 2 ^ 48) {n : Nat} (h1 : n ≤ 100) {most : Int} (m0 : 0 ≤ most) (m1 : most ≤ 100) (q : ∀ rs b', Bk (k + 5000) b' → (∀ r ∈ rs, RowU n r) → (rs.length : Int) ≤ most → Q (.fz (encTab n rs)) [encB b', .fz (.int n), .fz (.int most)]) :
    W (m__law_any_table [encB b, .fz (.int n), .fz (.int most)]) Q := by
  unfold m__law_any_table
  simp_arith [encB_entry, encB_fz, encB_io, encB_outs]
  unfold mb__law_any_table
  simp_arith [encB_entry, encB_fz, encB_io, encB_outs]
  refine w_take h (by omega) (by omega) (by omega) fun v b1 hb1 v0 v1 => ?_
  simp_arith [encB_entry, encB_fz, encB_io, encB_outs]
  refine gd_of (okR_of (by omega) (by omega)) ?_
  refine w_lcL (fun i : Nat => .int (0 + (i : Int))) (fun rest acc S => ∃ (rs : List Row) (b' : Bag), S = [.io (encB b'), .v (.fz (.int n)), .v (.fz (.int most)), .un] ∧ acc = (rs.map encRow).map OV.fz ∧ Bk (k + 1 + 40 * rs.length) b' ∧ rs.length + rest.length = v.toNat ∧ ∀ r ∈ rs, RowU n r) (as := List.range v.toNat) ⟨[], b1, rfl, rfl, hb1, by simp, fun _ h => nomatch h⟩ ?_ ?_
  · rintro a as acc _ ⟨rs, b2, rfl, rfl, hb2, hl, hs⟩
    simp only [List.length_cons] at hl
    unfold ce__law_any_table_1
    simp_arith [encB_entry, encB_fz, encB_io, encB_outs]
    refine w_any_row hb2 (by omega) (by omega) (by omega) fun r b3 hb3 hr => ?_
    simp_arith [encB_entry, encB_fz, encB_io, encB_outs]
    refine gd_of (by rw [x_size]; simp; omega) ⟨rs ++ [r], b3, rfl, by simp, hb3.mono (by simp; omega), by simp; omega, fun x hx => ?_⟩
    rcases List.mem_append.1 hx with hx | hx
    · exact hs x hx
    · simp at hx; subst hx; exact hr
  · rintro _ _ ⟨rs, b2, rfl, rfl, hb2, hl, hs⟩
    simp_arith [encB_entry, encB_fz, encB_io, encB_outs]
    simp only [List.length_nil] at hl
    exact q rs b2 (hb2.mono (by omega)) hs (by omega)
/-- a list mixed -/
theorem w_mixed (h : Bk k b) (hk : k < 2 ^ 48) {ds : List PyData} (hl : ds.length ≤ 1000) (q : ∀ es b', Bk (k + ds.length) b' → List.Perm es ds → Q (.ol (es.map OV.fz)) [encB b', .fz (.list ds)]) :
    W (m__law_mixed [encB b, .fz (.list ds)]) Q := by
  unfold m__law_mixed
  simp_arith [encB_entry, encB_fz, encB_io, encB_outs]
  unfold mb__law_mixed
  simp_arith [encB_entry, encB_fz, encB_io, encB_outs]
  have hds : ds = ds.map fun d => d := by simp
  conv => enter [1, 4]; rw [hds]
  refine w_forL (fun d => d) (fun rest S => ∃ (es : List PyData) (b' : Bag), S = [.io (encB b'), .v (.fz (.list ds)), .v (.ol (es.map OV.fz)), .un] ∧ Bk (k + es.length) b' ∧ es.length + rest.length = ds.length ∧ List.Perm (es ++ rest) ds) (as := ds) ⟨[], b, rfl, h, by simp, by simp⟩ ?_ ?_
  · rintro a as _ ⟨es, b2, rfl, hb2, hl2, hp⟩
    simp only [List.length_cons] at hl2
    unfold fg__law_mixed_1 fb__law_mixed_1
    simp_arith [encB_entry, encB_fz, encB_io, encB_outs]
    refine w_take hb2 (by omega) (by simp <;> omega) (by simp <;> omega) fun v b3 hb3 v0 v1 => ?_
    simp_arith [encB_entry, encB_fz, encB_io, encB_outs]
    refine gd_of ⟨by rw [x_size]; simp; omega, v0, by simp at v1; omega⟩ ?_
    simp_arith [encB_entry, encB_fz, encB_io, encB_outs]
    refine ⟨es.take v.toNat ++ [a] ++ es.drop v.toNat, b3, by simp [wipeS, List.map_take, List.map_drop], hb3.mono (by simp; omega), by simp; omega, ?_⟩
    refine List.Perm.trans ?_ hp
    have e1 : es ++ a :: as = (es.take v.toNat ++ es.drop v.toNat) ++ a :: as := by rw [List.take_append_drop]
    rw [e1]
    simp only [List.append_assoc, List.singleton_append]
    refine List.Perm.append_left _ ?_
    rw [List.cons_append]
    exact List.perm_middle.symm
  · rintro _ ⟨es, b2, rfl, hb2, hl2, hp⟩
    simp_arith [encB_entry, encB_fz, encB_io, encB_outs]
    simp only [List.length_nil] at hl2
    exact q es b2 (hb2.mono (by omega)) (by simpa using hp)
/-- the sides of an unknown in its own row -/
structure OwnSides (told twice : Bool) (own : Nat) (high : Int) (ss : List Side) : Prop where
  head : ∃ low more, ss = ((own : Int), low, some high) :: more ∧ high - 3 ≤ low ∧ low ≤ high ∧ (told = true → low = high) ∧ more.length ≤ 1 ∧ (twice = false → more = []) ∧
    ∀ s ∈ more, s.1 = (own : Int) ∧ high < s.2.1 ∧ s.2.1 ≤ high + 3 ∧ ∀ x, s.2.2 = some x → s.2.1 ≤ x ∧ x ≤ s.2.1 + 3
theorem w_own_sides (h : Bk k b) (hk : k < 2 ^ 48) {own : Nat} {high : Int} (h0 : -100 ≤ high) (h1 : high ≤ 100) {told twice : Bool} (q : ∀ ss b', Bk (k + 4) b' → OwnSides told twice own high ss → Q (.ol ((ss.map encS).map OV.fz)) [encB b', .fz (.int own), .fz (.int high), .fz (.bool told), .fz (.bool twice)]) :
    W (m__law_own_sides [encB b, .fz (.int own), .fz (.int high), .fz (.bool told), .fz (.bool twice)]) Q := by
  unfold m__law_own_sides
  simp_arith [encB_entry, encB_fz, encB_io, encB_outs]
  unfold mb__law_own_sides
  refine w_seq (fun S1 => ∃ (low : Int) (b' : Bag), S1 = [.io (encB b'), .v (.fz (.int own)), .v (.fz (.int high)), .v (.fz (.bool told)), .v (.fz (.bool twice)), .v (.fz (.int low)), .un] ∧ Bk (k + 1) b' ∧ high - 3 ≤ low ∧ low ≤ high ∧ (told = true → low = high)) ?_ ?_
  · simp_arith [encB_entry, encB_fz, encB_io, encB_outs]
    refine br_of (fun ht => ?_) fun ht => ?_
    · simp_arith [encB_entry, encB_fz, encB_io, encB_outs]
      exact ⟨high, b, rfl, h.mono (by omega), by omega, by omega, fun _ => rfl⟩
    · simp_arith [encB_entry, encB_fz, encB_io, encB_outs]
      refine w_someI [0, 1, 3, 2] h (by omega) (by simp) (by simp) fun x b1 hb1 hx => ?_
      simp_arith [encB_entry, encB_fz, encB_io, encB_outs]
      simp only [List.mem_cons, List.not_mem_nil, or_false] at hx
      exact ⟨high - x, b1, rfl, hb1, by omega, by omega, fun z => by rw [ht] at z; cases z⟩
  rintro _ ⟨low, b1, rfl, hb1, l0, l1, lt⟩
  refine w_seq (fun S1 => S1 = [.io (encB b1), .v (.fz (.int own)), .v (.fz (.int high)), .v (.fz (.bool told)), .v (.fz (.bool twice)), .v (.fz (.int low)), .v (.ol (([((own : Int), low, some high)].map encS).map OV.fz))]) ?_ ?_
  · simp_arith [encB_entry, encB_fz, encB_io, encB_outs]
    rfl
  rintro _ rfl
  refine w_seq (fun S1 => ∃ (more : List Side) (b' : Bag), S1 = [.io (encB b'), .v (.fz (.int own)), .v (.fz (.int high)), .v (.fz (.bool told)), .v (.fz (.bool twice)), .v (.fz (.int low)), .v (.ol (((((own : Int), low, some high) :: more).map encS).map OV.fz))] ∧ Bk (k + 4) b' ∧ more.length ≤ 1 ∧ (twice = false → more = []) ∧
    ∀ s ∈ more, s.1 = (own : Int) ∧ high < s.2.1 ∧ s.2.1 ≤ high + 3 ∧ ∀ x, s.2.2 = some x → s.2.1 ≤ x ∧ x ≤ s.2.1 + 3) ?_ ?_
  · simp_arith [encB_entry, encB_fz, encB_io, encB_outs]
    refine br_of (fun ht => ?_) fun ht => ?_
    · simp_arith [encB_entry, encB_fz, encB_io, encB_outs]
      refine w_take hb1 (by omega) (by omega) (by omega) fun v b2 hb2 v0 v1 => ?_
      simp_arith [encB_entry, encB_fz, encB_io, encB_outs]
      refine br_dec (fun hv => ?_) fun hv => ?_
      · simp_arith [encB_entry, encB_fz, encB_io, encB_outs]
        refine w_take hb2 (by omega) (by omega) (by omega) fun u b3 hb3 u0 u1 => ?_
        simp_arith [encB_entry, encB_fz, encB_io, encB_outs]
        refine w_bounds hb3 (by omega) (by omega) (by omega) fun g b4 hb4 hg => ?_
        simp_arith [encB_entry, encB_fz, encB_io, encB_outs, cat12]
        refine gd_of (by rw [x_size]; decide) ⟨rfl, [((own : Int), high + 1 + u, g)], b4, rfl, hb4.mono (by omega), by simp, fun z => by (rw [ht] at z; cases z), fun s hs => ?_⟩
        simp at hs
        subst hs
        exact ⟨rfl, by show high < high + 1 + u; omega, by show high + 1 + u ≤ high + 3; omega, hg⟩
      · simp_arith [encB_entry, encB_fz, encB_io, encB_outs]
        exact ⟨[], b2, rfl, hb2.mono (by omega), by simp, fun _ => rfl, fun _ h => nomatch h⟩
    · simp_arith [encB_entry, encB_fz, encB_io, encB_outs]
      exact ⟨[], b1, rfl, hb1.mono (by omega), by simp, fun _ => rfl, fun _ h => nomatch h⟩
  rintro _ ⟨more, b2, rfl, hb2, ml, mt, hm⟩
  simp_arith [encB_entry, encB_fz, encB_io, encB_outs]
  exact q _ b2 hb2 ⟨low, more, rfl, l0, l1, lt, ml, mt, hm⟩
end PD
set_option Elab.async false
set_option linter.all false
set_option maxRecDepth 100000
set_option maxHeartbeats 4000000
set_option exponentiation.threshold 5000
namespace PD
open PySem L2 PD.G
variable {k : Nat} {b : Bag} {Q : OV → List OV → Prop}
inductive All2 {A B : Type} (R : A → B → Prop) : List A → List B → Prop where
  | nil : All2 R [] []
  | cons {a b as bs} : R a b → All2 R as bs → All2 R (a :: as) (b :: bs)
theorem All2.snoc {A B : Type} {R : A → B → Prop} {as : List A} {bs : List B} {a : A} {b : B} (h : All2 R as bs) (r : R a b) : All2 R (as ++ [a]) (bs ++ [b]) := by
  induction h with
  | nil => exact .cons r .nil
  | cons r' _ ih => exact .cons r' ih
theorem All2.length {A B : Type} {R : A → B → Prop} {as : List A} {bs : List B} (h : All2 R as bs) : as.length = bs.length := by
  induction h with
  | nil => rfl
  | cons _ _ ih => simp [ih]
theorem All2.right {A B : Type} {R : A → B → Prop} {as : List A} {bs : List B} (h : All2 R as bs) : ∀ b ∈ bs, ∃ a ∈ as, R a b := by
  induction h with
  | nil => exact fun _ h => nomatch h
  | cons r _ ih =>
    intro x hx
    rcases List.mem_cons.1 hx with z | z
    · exact ⟨_, List.mem_cons_self, z ▸ r⟩
    · obtain ⟨a, h1, h2⟩ := ih x z
      exact ⟨a, List.mem_cons_of_mem _ h1, h2⟩
theorem perm_map_inv {A B : Type} {f : A → B} {xs es : List B} (h : xs.Perm es) : ∀ l : List A, xs = l.map f → ∃ l' : List A, es = l'.map f ∧ l'.Perm l := by
  induction h with
  | nil => intro l hl; exact ⟨l, hl, .refl _⟩
  | cons x _ ih =>
    intro l hl
    cases l with
    | nil => cases hl
    | cons a l =>
      simp only [List.map_cons, List.cons.injEq] at hl
      obtain ⟨l', h1, h2⟩ := ih l hl.2
      exact ⟨a :: l', by simp [hl.1, h1], h2.cons a⟩
  | swap x y l0 =>
    intro l hl
    match l, hl with
    | a :: c :: l, hl =>
      simp only [List.map_cons, List.cons.injEq] at hl
      exact ⟨c :: a :: l, by simp [hl.1, hl.2.1, hl.2.2], .swap _ _ _⟩
  | trans _ _ h1 h2 =>
    intro l hl
    obtain ⟨l1, e1, p1⟩ := h1 l hl
    obtain ⟨l2, e2, p2⟩ := h2 l1 e1
    exact ⟨l2, e2, p2.trans p1⟩
theorem cut_to (xs : List PyData) (n : Nat) : cutD xs none (some (n : Int)) = xs.take n := by
  unfold cutD
  rw [show HT.sIx xs.length xs.length (some (n : Int)) = min n xs.length from HT.sIx_nat xs.length _ n, HT.sIx_none]
  by_cases h : n ≤ xs.length
  · rw [Nat.min_eq_left h]; simp
  · rw [Nat.min_eq_right (by omega), List.take_of_length_le (by simp), List.take_of_length_le (by omega)]; simp
/-- a side in the row of the unknown o -/
structure OthS (n : Nat) (w : Nat → Int) (told twice : Bool) (o : Nat) (high : Int) (s : Side) : Prop where
  kd : (s.1 = (o : Int) ∧ high < s.2.1 ∧ twice = true) ∨ ∃ u : Nat, u < n ∧ u ≠ o ∧ s.1 = (u : Int) ∧ high + (w o - w u) / (n : Int) + 1 ≤ s.2.1
  ok : SideOk s
  tl : told = true → twice = false → s.2.2 = some s.2.1
/-- the row of the unknown o -/
structure SilRow (n : Nat) (w : Nat → Int) (told twice : Bool) (o : Nat) (r : Row) : Prop where
  u : RowU n r
  lt : o < n
  ln : r.1.length ≤ 8
  own : ∃ low high, (∀ s ∈ r.1, s = ((o : Int), low, some high) ∨ OthS n w told twice o high s) ∧ ((o : Int), low, some high) ∈ r.1 ∧ -2 ≤ high ∧ high ≤ 4 ∧ high - 3 ≤ low ∧ low ≤ high ∧ (told = true → low = high)
  nd : twice = false → (r.1.map (·.1)).Nodup
  rt : told = true → ∀ p, r.2 = some p → p.2 = some p.1
abbrev Sil (s0 : SV) (n : Nat) (told twice : Bool) (ws : List Int) (s5 s6 : SV) (o : Nat) (high : Int) (ss : List Side) (s10 s11 s12 s13 : SV) : SS :=
  [s0, .v (.fz (.int n)), .v (.fz (.bool told)), .v (.fz (.bool twice)), .v (.ol ((ws.map PyData.int).map OV.fz)), s5, s6, .v (.fz (.int o)), .v (.fz (.int high)), .v (.ol ((ss.map encS).map OV.fz)), s10, s11, s12, s13]
def wAt (ws : List Int) (u : Nat) : Int := ws.getD u 0
theorem ws_ix {ws : List Int} {u : Nat} (h : u < ws.length) : gIx (.ol ((ws.map PyData.int).map OV.fz)) (.fz (.int (u : Int))) = some (.fz (.int (wAt ws u))) := by
  rw [ix_ol (by simpa using h)]
  simp [wAt, h]
theorem div_rng {x n : Int} (hn : 0 < n) (h0 : -(5 * n) ≤ x) (h1 : x ≤ 5 * n) : -5 ≤ x / n ∧ x / n ≤ 5 := by
  constructor
  · exact Int.le_ediv_of_mul_le hn (by omega)
  · have : x / n < 6 := Int.ediv_lt_of_lt_mul hn (by omega)
    omega
/-- what holds of the sides while they are drawn -/
structure SdOk (n : Nat) (w : Nat → Int) (told twice : Bool) (o : Nat) (low high : Int) (rest : List Nat) (more : List Side) : Prop where
  al : ∀ s ∈ more, OthS n w told twice o high s
  nd : twice = false → (more.map (·.1)).Nodup
  nr : twice = false → ∀ s ∈ more, ∀ u ∈ rest, s.1 ≠ (u : Int)
theorem SdOk.skip {n : Nat} {w : Nat → Int} {told twice : Bool} {o : Nat} {low high : Int} {a : Nat} {rest : List Nat} {more : List Side} (h : SdOk n w told twice o low high (a :: rest) more) : SdOk n w told twice o low high rest more :=
  ⟨h.al, h.nd, fun z s hs u hu => h.nr z s hs u (List.mem_cons_of_mem _ hu)⟩
theorem SdOk.add {n : Nat} {w : Nat → Int} {told twice : Bool} {o : Nat} {low high : Int} {a : Nat} {rest : List Nat} {more : List Side} (h : SdOk n w told twice o low high (a :: rest) more) (hn : (a :: rest).Nodup) {s : Side} (hs : OthS n w told twice o high s) (ha : s.1 = (a : Int)) : SdOk n w told twice o low high rest (more ++ [s]) := by
  refine ⟨fun x hx => ?_, fun z => ?_, fun z x hx u hu => ?_⟩
  · rcases List.mem_append.1 hx with hx | hx
    · exact h.al x hx
    · simp at hx; exact hx ▸ hs
  · rw [List.map_append, List.nodup_append]
    refine ⟨h.nd z, by simp, fun x hx y hy => ?_⟩
    obtain ⟨t, ht, rfl⟩ := List.mem_map.1 hx
    simp at hy
    subst hy
    rw [ha]
    exact h.nr z t ht a List.mem_cons_self
  · rcases List.mem_append.1 hx with hx | hx
    · exact h.nr z x hx u (List.mem_cons_of_mem _ hu)
    · simp at hx
      subst hx
      rw [ha]
      intro e
      have : a = u := by omega
      subst this
      exact (List.nodup_cons.1 hn).1 hu
theorem SdOk.add2 {n : Nat} {w : Nat → Int} {told : Bool} {o : Nat} {low high : Int} {rest : List Nat} {more : List Side} (h : SdOk n w told true o low high rest more) {s : Side} (hs : OthS n w told true o high s) : SdOk n w told true o low high rest (more ++ [s]) := by
  refine ⟨fun x hx => ?_, fun z => (nomatch z), fun z => (nomatch z)⟩
  rcases List.mem_append.1 hx with hx | hx
  · exact h.al x hx
  · simp at hx; exact hx ▸ hs
theorem sides_loop {ws : List Int} {n : Nat} (hn : n ≤ 6) (hw : ws.length = n) (hr : ∀ u, u < n → 0 ≤ wAt ws u ∧ wAt ws u ≤ 5 * n) {o : Nat} (ho : o < n) {low high : Int} (h0 : -2 ≤ high) (h1 : high ≤ 4) {told twice : Bool} {s5 s6 s12 s13 : SV} (hd : Side) {QS : Fl → SS → Prop}
    (fin : ∀ more b', Bk (k + 6 * n) b' → SdOk n (wAt ws) told twice o low high [] more → more.length ≤ 1 + 2 * n → QS .nx (Sil (.io (encB b')) n told twice ws s5 s6 o high (hd :: more) .un .un s12 s13))
    {more : List Side} (hm : SdOk n (wAt ws) told twice o low high (List.range n) more) (hl : more.length ≤ 1) (h : Bk k b) (hk : k < 2 ^ 48) :
    W (forL [10, 11] fg__law_silent_rows_1 fb__law_silent_rows_1 (rangeD 0 n) (Sil (.io (encB b)) n told twice ws s5 s6 o high (hd :: more) .un .un s12 s13)) QS := by
  refine w_forL (fun i : Nat => .int (0 + (i : Int))) (fun rest S => ∃ (more : List Side) (b' : Bag), S = Sil (.io (encB b')) n told twice ws s5 s6 o high (hd :: more) .un .un s12 s13 ∧ rest.length ≤ n ∧ Bk (k + 6 * (n - rest.length)) b' ∧ SdOk n (wAt ws) told twice o low high rest more ∧ more.length ≤ 1 + 2 * (n - rest.length) ∧ rest.Nodup ∧ ∀ u ∈ rest, u < n) (as := List.range n)
    ⟨more, b, rfl, by simp, by simpa using h, hm, by simp; omega, List.nodup_range, fun u hu => List.mem_range.1 hu⟩ ?_ ?_
  · rintro a as _ ⟨more, b1, rfl, hln, hb1, hm, hl, hnd, hlt⟩
    have ha := hlt a List.mem_cons_self
    simp only [List.length_cons] at hln hb1 hl
    have hra := hr a ha
    have hro := hr o ho
    have hdv := div_rng (x := wAt ws o - wAt ws a) (n := (n : Int)) (by omega) (by omega) (by omega)
    unfold fg__law_silent_rows_1 fb__law_silent_rows_1
    simp_arith [encB_entry, encB_fz, Int.zero_add]
    refine br_ndec (fun hne => ?_) fun he => ?_
    · have hne' : a ≠ o := fun z => hne (by omega)
      simp_arith [encB_entry, encB_fz, Int.zero_add]
      refine w_take hb1 (by omega) (by omega) (by omega) fun v b2 hb2 v0 v1 => ?_
      simp_arith [encB_entry, encB_fz, Int.zero_add]
      refine br_dec (fun hv => ?_) fun hv => ?_
      · refine w_seq (fun S1 => ∃ (least : Int) (b' : Bag), S1 = Sil (.io (encB b')) n told twice ws s5 s6 o high (hd :: more) (.v (.fz (.int a))) (.v (.fz (.int least))) s12 s13 ∧ Bk (k + 6 * (n - (as.length + 1)) + 2) b' ∧ high + (wAt ws o - wAt ws a) / (n : Int) + 1 ≤ least ∧ -10 ≤ least ∧ least ≤ 15) ?_ ?_
        · simp_arith [encB_entry, encB_fz, ws_ix (show o < ws.length by omega), ws_ix (show a < ws.length by omega), v_div, w1_ite]
          refine gd_of (okDiv_small (by omega) (Nat.lt_of_lt_of_le (by omega : ((n : Int)).natAbs < 2 ^ 10) (Nat.pow_le_pow_right (by decide) (by decide)))) ?_
          simp_arith [encB_entry, encB_fz]
          refine w_someI [0, 0, 1, 3] hb2 (by omega) (by simp) (by simp) fun x b3 hb3 hx => ?_
          simp_arith [encB_entry, encB_fz]
          simp only [List.mem_cons, List.not_mem_nil, or_false] at hx
          exact ⟨_, b3, rfl, hb3, by omega, by omega, by omega⟩
        rintro _ ⟨least, b3, rfl, hb3, hL, hl0, hl1⟩
        have hoth : ∀ s : Side, s.1 = (a : Int) → least ≤ s.2.1 → s.2.1 ≤ least + 2 → (∀ x, s.2.2 = some x → s.2.1 ≤ x ∧ x ≤ s.2.1 + 3) → (told = true → twice = false → s.2.2 = some s.2.1) → OthS n (wAt ws) told twice o high s := fun s e1 e2 e3 e4 e5 =>
          ⟨.inr ⟨a, ha, hne', e1, by omega⟩, ⟨by omega, by omega, fun x hx => by have := e4 x hx; omega⟩, e5⟩
        refine w_seq (fun S1 => ∃ (g : Option Int) (b' : Bag), S1 = Sil (.io (encB b')) n told twice ws s5 s6 o high (hd :: (more ++ [((a : Int), least, g)])) (.v (.fz (.int a))) (.v (.fz (.int least))) s12 s13 ∧ Bk (k + 6 * (n - (as.length + 1)) + 3) b' ∧ OthS n (wAt ws) told twice o high ((a : Int), least, g)) ?_ ?_
        · simp_arith [encB_entry, encB_fz]
          refine br_of (fun ht => ?_) fun ht => ?_
          · simp_arith [encB_entry, encB_fz, cat12]
            refine gd_of (by rw [x_size]; simp; omega) ⟨rfl, some least, b3, by simp [Sil, modS, SV.put, encS, encO], hb3.mono (by omega), hoth _ rfl (by show least ≤ least; omega) (by show least ≤ least + 2; omega) (fun x hx => by cases hx; show least ≤ least ∧ least ≤ least + 3; omega) fun _ _ => rfl⟩
          · simp_arith [encB_entry, encB_fz]
            refine w_bounds hb3 (by omega) (by omega) (by omega) fun g b4 hb4 hg => ?_
            simp_arith [encB_entry, encB_fz, cat12]
            refine gd_of (by rw [x_size]; simp; omega) ⟨rfl, g, b4, by simp [Sil, modS, SV.put, encS], hb4.mono (by omega), hoth _ rfl (by show least ≤ least; omega) (by show least ≤ least + 2; omega) hg fun z => by rw [ht] at z; cases z⟩
        rintro _ ⟨g, b4, rfl, hb4, hg⟩
        have hm1 := hm.add hnd hg rfl
        simp_arith [encB_entry, encB_fz]
        refine br_of (fun ht => ?_) fun ht => ?_
        · simp_arith [encB_entry, encB_fz]
          refine w_take hb4 (by omega) (by omega) (by omega) fun v b5 hb5 v0 v1 => ?_
          simp_arith [encB_entry, encB_fz]
          refine br_dec (fun hv => ?_) fun hv => ?_
          · simp_arith [encB_entry, encB_fz]
            refine w_take hb5 (by omega) (by omega) (by omega) fun u b6 hb6 u0 u1 => ?_
            simp_arith [encB_entry, encB_fz]
            refine w_bounds hb6 (by omega) (by omega) (by omega) fun g2 b7 hb7 hg2 => ?_
            simp_arith [encB_entry, encB_fz, cat12]
            subst ht
            refine gd_of (by rw [x_size]; simp; omega) ⟨more ++ [((a : Int), least, g)] ++ [((a : Int), least + u, g2)], b7, by simp [Sil, modS, SV.put, wipeS, encS], by omega, hb7.mono (by omega), hm1.add2 (hoth _ rfl (by show least ≤ least + u; omega) (by show least + u ≤ least + 2; omega) hg2 fun _ z => nomatch z), by simp; omega, (List.nodup_cons.1 hnd).2, fun u hu => hlt u (List.mem_cons_of_mem _ hu)⟩
          · simp_arith [encB_entry, encB_fz]
            exact ⟨more ++ [((a : Int), least, g)], b5, rfl, by omega, hb5.mono (by omega), hm1, by simp; omega, (List.nodup_cons.1 hnd).2, fun u hu => hlt u (List.mem_cons_of_mem _ hu)⟩
        · simp_arith [encB_entry, encB_fz]
          exact ⟨more ++ [((a : Int), least, g)], b4, rfl, by omega, hb4.mono (by omega), hm1, by simp; omega, (List.nodup_cons.1 hnd).2, fun u hu => hlt u (List.mem_cons_of_mem _ hu)⟩
      · simp_arith
        exact ⟨more, b2, rfl, by omega, hb2.mono (by omega), hm.skip, by omega, (List.nodup_cons.1 hnd).2, fun u hu => hlt u (List.mem_cons_of_mem _ hu)⟩
    · simp_arith
      exact ⟨more, b1, rfl, by omega, hb1.mono (by omega), hm.skip, by omega, (List.nodup_cons.1 hnd).2, fun u hu => hlt u (List.mem_cons_of_mem _ hu)⟩
  · rintro _ ⟨more, b1, rfl, _, hb1, hm, hl, _, _⟩
    simp only [List.length_nil] at hb1 hl
    exact fin more b1 (hb1.mono (by omega)) hm (by omega)
end PD
set_option Elab.async false
set_option linter.all false
set_option maxRecDepth 100000
set_option maxHeartbeats 4000000
set_option exponentiation.threshold 5000
namespace PD
open PySem L2 PD.G
variable {k : Nat} {b : Bag} {Q : OV → List OV → Prop}
theorem v_sl8 {ds : List PyData} : gSl (.ol (ds.map OV.fz)) none (some 8) = some (.ol ((ds.take 8).map OV.fz)) := by
  unfold gSl
  simp only [allFz_fz, Option.map_some]
  have := cut_to ds 8
  rw [show ((8 : Nat) : Int) = 8 from rfl] at this
  rw [this]
theorem OwnSides.sd {n : Nat} {w : Nat → Int} {told twice : Bool} {o : Nat} {low high : Int} {more : List Side} (h0 : -2 ≤ high) (h1 : high ≤ 4) (h2 : twice = false → more = [])
    (h3 : ∀ s ∈ more, s.1 = (o : Int) ∧ high < s.2.1 ∧ s.2.1 ≤ high + 3 ∧ ∀ x, s.2.2 = some x → s.2.1 ≤ x ∧ x ≤ s.2.1 + 3) (rest : List Nat) : SdOk n w told twice o low high rest more := by
  cases twice with
  | true =>
    refine ⟨fun s hs => ?_, fun z => (nomatch z), fun z => (nomatch z)⟩
    obtain ⟨a1, a2, a3, a4⟩ := h3 s hs
    exact ⟨.inl ⟨a1, a2, rfl⟩, ⟨by omega, by omega, fun x hx => by have := a4 x hx; omega⟩, fun _ z => nomatch z⟩
  | false =>
    have := h2 rfl
    subst this
    exact ⟨fun _ h => (nomatch h), fun _ => by simp, fun _ _ h => nomatch h⟩
theorem sil_row {n : Nat} {w : Nat → Int} {told twice : Bool} {o : Nat} (ho : o < n) {low high : Int} (h0 : -2 ≤ high) (h1 : high ≤ 4) (l0 : high - 3 ≤ low) (l1 : low ≤ high) (lt : told = true → low = high) {more : List Side} (hm : SdOk n w told twice o low high [] more)
    {l : List Side} (hl : l.Perm ((((o : Int), low, some high) :: more).take 8)) {rt : Option (Int × Option Int)} (r0 : ∀ p, rt = some p → SideOk (0, p)) (r1 : told = true → ∀ p, rt = some p → p.2 = some p.1) : SilRow n w told twice o (l, rt) := by
  have hmem : ∀ s ∈ l, s = ((o : Int), low, some high) ∨ OthS n w told twice o high s := fun s hs => by
    have h := List.mem_of_mem_take (hl.mem_iff.1 hs)
    rcases List.mem_cons.1 h with z | z
    · exact .inl z
    · exact .inr (hm.al s z)
  have hlen : l.length ≤ 8 := by
    rw [hl.length_eq, List.length_take]
    omega
  refine ⟨⟨⟨fun s hs => ?_, by show l.length ≤ 9; omega, r0⟩, fun s hs => ?_⟩, ho, hlen, ⟨low, high, hmem, ?_, h0, h1, l0, l1, lt⟩, fun z => ?_, r1⟩
  · rcases hmem s hs with z | z
    · subst z
      exact ⟨by show -100 ≤ low; omega, by show low ≤ 100; omega, fun x hx => by cases hx; show low ≤ high ∧ high ≤ low + 50; omega⟩
    · exact z.ok
  · rcases hmem s hs with z | z
    · subst z
      exact ⟨by show (0 : Int) ≤ o; omega, by show (o : Int) < n; omega⟩
    · rcases z.kd with ⟨e, _, _⟩ | ⟨u, hu, _, e, _⟩
      · omega
      · omega
  · rw [hl.mem_iff, List.take_succ_cons]
    exact List.mem_cons_self
  · refine (hl.map _).nodup_iff.2 ?_
    rw [List.map_take]
    refine List.Sublist.nodup (List.take_sublist _ _) ?_
    rw [List.map_cons, List.nodup_cons]
    refine ⟨fun hx => ?_, hm.nd z⟩
    obtain ⟨s, hs, e⟩ := List.mem_map.1 hx
    rcases (hm.al s hs).kd with ⟨_, _, e2⟩ | ⟨u, hu, hne, e1, _⟩
    · rw [z] at e2; cases e2
    · have e' : s.1 = (o : Int) := e
      omega
abbrev Sio (s0 : SV) (n : Nat) (told twice : Bool) (ws : List Int) (s5 : SV) (rows : List Row) (s7 s8 s9 s10 s11 s12 s13 : SV) : SS :=
  [s0, .v (.fz (.int n)), .v (.fz (.bool told)), .v (.fz (.bool twice)), .v (.ol ((ws.map PyData.int).map OV.fz)), s5, .v (.ol ((rows.map encRow).map OV.fz)), s7, s8, s9, s10, s11, s12, s13]
theorem row_draw {ws : List Int} {n : Nat} (hn : n ≤ 6) (hw : ws.length = n) (hr : ∀ u, u < n → 0 ≤ wAt ws u ∧ wAt ws u ≤ 5 * n) {o : Nat} (ho : o < n) {told twice : Bool} {s5 : SV} {rows : List Row} (hrl : rows.length ≤ 100) (h : Bk k b) (hk : k < 2 ^ 47) {QS : Fl → SS → Prop}
    (q : ∀ r b' s8 s9 s10 s11 s12, Bk (k + 60) b' → SilRow n (wAt ws) told twice o r → QS .nx (Sio (.io (encB b')) n told twice ws s5 (rows ++ [r]) (.v (.fz (.int o))) s8 s9 s10 s11 s12 .un)) :
    W (fb__law_silent_rows_2 (Sio (.io (encB b)) n told twice ws s5 rows (.v (.fz (.int o))) .un .un .un .un .un .un)) QS := by
  unfold fb__law_silent_rows_2
  refine w_seq (fun S1 => ∃ (high : Int) (b' : Bag), S1 = Sio (.io (encB b')) n told twice ws s5 rows (.v (.fz (.int o))) (.v (.fz (.int high))) .un .un .un .un .un ∧ Bk (k + 1) b' ∧ -2 ≤ high ∧ high ≤ 4) ?_ ?_
  · simp_arith [encB_entry, encB_fz, encB_io, encB_outs]
    refine w_someI [0, 0, 1, -2, 4] h (by omega) (by simp) (by simp) fun x b1 hb1 hx => ?_
    simp_arith [encB_entry, encB_fz, encB_io, encB_outs]
    simp only [List.mem_cons, List.not_mem_nil, or_false] at hx
    exact ⟨x, b1, rfl, hb1, by omega, by omega⟩
  rintro _ ⟨high, b1, rfl, hb1, h0, h1⟩
  refine w_seq (fun S1 => ∃ (low : Int) (more : List Side) (b' : Bag), S1 = Sio (.io (encB b')) n told twice ws s5 rows (.v (.fz (.int o))) (.v (.fz (.int high))) (.v (.ol (((((o : Int), low, some high) :: more).map encS).map OV.fz))) .un .un .un .un ∧ Bk (k + 5) b' ∧ high - 3 ≤ low ∧ low ≤ high ∧ (told = true → low = high) ∧ more.length ≤ 1 ∧ SdOk n (wAt ws) told twice o low high (List.range n) more) ?_ ?_
  · simp_arith [encB_entry, encB_fz, encB_io, encB_outs]
    refine w_own_sides hb1 (by omega) (by omega) (by omega) fun ss b2 hb2 hs => ?_
    simp_arith [encB_entry, encB_fz, encB_io, encB_outs]
    obtain ⟨low, more, rfl, l0, l1, lt, ml, mt, hm⟩ := hs.head
    exact ⟨low, more, b2, rfl, hb2, l0, l1, lt, ml, OwnSides.sd h0 h1 mt hm _⟩
  rintro _ ⟨low, more, b2, rfl, hb2, l0, l1, lt, ml, hm⟩
  refine w_seq (fun S1 => ∃ (more : List Side) (b' : Bag), S1 = Sio (.io (encB b')) n told twice ws s5 rows (.v (.fz (.int o))) (.v (.fz (.int high))) (.v (.ol (((((o : Int), low, some high) :: more).map encS).map OV.fz))) .un .un .un .un ∧ Bk (k + 41) b' ∧ SdOk n (wAt ws) told twice o low high [] more) ?_ ?_
  · rw [w_gFor]
    simp_arith [encB_entry, encB_fz, encB_io, encB_outs]
    refine gd_of (okR_of (by omega) (by omega)) ?_
    rw [Int.toNat_natCast]
    exact sides_loop hn hw hr ho h0 h1 _ (fun more b' hb' hm' _ => ⟨rfl, more, b', rfl, hb'.mono (by omega), hm'⟩) hm ml hb2 (by omega)
  rintro _ ⟨more, b3, rfl, hb3, hm⟩
  refine w_seq (fun S1 => ∃ (rt : Option Int) (b' : Bag), S1 = Sio (.io (encB b')) n told twice ws s5 rows (.v (.fz (.int o))) (.v (.fz (.int high))) (.v (.ol (((((o : Int), low, some high) :: more).map encS).map OV.fz))) .un .un (.v (.fz (encO rt))) .un ∧ Bk (k + 42) b' ∧ ∀ x, rt = some x → -1 ≤ x ∧ x ≤ 5) ?_ ?_
  · simp_arith [encB_entry, encB_fz, encB_io, encB_outs]
    refine w_some' (xs := [.none, .int 0, .int 2, .int (-1), .int 5]) hb3 (by omega) (by simp) (by simp) fun x b4 hb4 hx => ?_
    simp_arith [encB_entry, encB_fz, encB_io, encB_outs]
    simp only [List.mem_cons, List.not_mem_nil, or_false] at hx
    rcases hx with rfl | rfl | rfl | rfl | rfl
    · exact ⟨none, b4, rfl, hb4, fun x hx => nomatch hx⟩
    · exact ⟨some 0, b4, rfl, hb4, fun x hx => by cases hx; omega⟩
    · exact ⟨some 2, b4, rfl, hb4, fun x hx => by cases hx; omega⟩
    · exact ⟨some (-1), b4, rfl, hb4, fun x hx => by cases hx; omega⟩
    · exact ⟨some 5, b4, rfl, hb4, fun x hx => by cases hx; omega⟩
  rintro _ ⟨rt, b4, rfl, hb4, hrt⟩
  refine w_seq (fun S1 => ∃ (rt : Option (Int × Option Int)) (b' : Bag), S1 = Sio (.io (encB b')) n told twice ws s5 rows (.v (.fz (.int o))) (.v (.fz (.int high))) (.v (.ol (((((o : Int), low, some high) :: more).map encS).map OV.fz))) .un .un (.v (.fz (encRt rt))) .un ∧ Bk (k + 43) b' ∧ (∀ p, rt = some p → SideOk (0, p)) ∧ (told = true → ∀ p, rt = some p → p.2 = some p.1)) ?_ ?_
  · cases rt with
    | none =>
      simp_arith [encO]
      exact ⟨none, b4, rfl, hb4.mono (by omega), fun p hp => (nomatch hp), fun _ p hp => nomatch hp⟩
    | some x =>
      have hx := hrt x rfl
      simp_arith [encO]
      refine br_of (fun ht => ?_) fun ht => ?_
      · simp_arith [encB_entry, encB_fz, encB_io, encB_outs]
        exact ⟨some (x, some x), b4, rfl, hb4.mono (by omega), fun p hp => by cases hp; exact ⟨by show -100 ≤ x; omega, by show x ≤ 100; omega, fun y hy => by cases hy; show x ≤ x ∧ x ≤ x + 50; omega⟩, fun _ p hp => by cases hp; rfl⟩
      · simp_arith [encB_entry, encB_fz, encB_io, encB_outs]
        refine w_bounds hb4 (by omega) (by omega) (by omega) fun g b5 hb5 hg => ?_
        simp_arith [encB_entry, encB_fz, encB_io, encB_outs]
        exact ⟨some (x, g), b5, rfl, hb5, fun p hp => by cases hp; exact ⟨by show -100 ≤ x; omega, by show x ≤ 100; omega, fun y hy => by have := hg y hy; show x ≤ y ∧ y ≤ x + 50; omega⟩, fun z => by rw [ht] at z; cases z⟩
  rintro _ ⟨p, b5, rfl, hb5, p0, p1⟩
  simp_arith [encB_entry, encB_fz, encB_io, encB_outs]
  have e8 := v_sl8 (ds := ((((o : Int), low, some high) :: more).map encS))
  simp only [List.map_cons] at e8
  simp_arith [encB_fz, e8]
  have hds : (encS ((o : Int), low, some high) :: more.map encS).take 8 = ((((o : Int), low, some high) :: more).take 8).map encS := by rw [List.map_take, List.map_cons]
  rw [hds]
  refine w_mixed hb5 (by omega) (by simp; omega) fun es b6 hb6 hp => ?_
  obtain ⟨l, rfl, hl⟩ := perm_map_inv hp.symm _ rfl
  simp_arith [encB_entry, encB_fz, encB_io, encB_outs]
  refine gd_of (by rw [x_size]; simp; omega) ?_
  refine Eq.mp (congrArg (QS Fl.nx) ?_) (q (l, p) b6 (.v (.fz (.int high))) (.v (.ol (((((o : Int), low, some high) :: more).map encS).map OV.fz))) .un .un (.v (.fz (encRt p))) (hb6.mono (by simp; omega)) (sil_row ho h0 h1 l0 l1 lt hm hl p0 p1))
  simp [Sio, modS, SV.put, encRow]
/-- the rows of a drawn silent table -/
structure SilTab (n : Nat) (told twice : Bool) (rows : List Row) : Prop where
  ex : ∃ (w : Nat → Int) (owns : List Nat), owns.Perm (List.range n) ∧ (∀ u, u < n → 0 ≤ w u ∧ w u ≤ 5 * n) ∧ All2 (SilRow n w told twice) owns rows
theorem SilTab.ln {n : Nat} {told twice : Bool} {rows : List Row} (h : SilTab n told twice rows) : rows.length = n := by
  obtain ⟨w, owns, h1, _, h2⟩ := h.ex
  have := h1.length_eq
  rw [← h2.length, this, List.length_range]
theorem SilTab.row {n : Nat} {told twice : Bool} {rows : List Row} (h : SilTab n told twice rows) : ∀ r ∈ rows, RowU n r := fun r hr => by
  obtain ⟨w, owns, h1, _, h2⟩ := h.ex
  obtain ⟨a, _, h3⟩ := h2.right r hr
  exact h3.u
theorem w_silent_rows (h : Bk k b) (hk : k < 2 ^ 46) {n : Nat} (hn : n ≤ 6) {told twice : Bool} (q : ∀ rows b', Bk (k + 400) b' → SilTab n told twice rows → Q (.fz (encTab n rows)) [encB b', .fz (.int n), .fz (.bool told), .fz (.bool twice)]) :
    W (m__law_silent_rows [encB b, .fz (.int n), .fz (.bool told), .fz (.bool twice)]) Q := by
  unfold m__law_silent_rows
  simp_arith [encB_entry, encB_fz, encB_io, encB_outs]
  unfold mb__law_silent_rows
  refine w_seq (fun S1 => ∃ (ws : List Int) (b' : Bag), S1 = [.io (encB b'), .v (.fz (.int n)), .v (.fz (.bool told)), .v (.fz (.bool twice)), .v (.ol ((ws.map PyData.int).map OV.fz)), .un, .un, .un, .un, .un, .un, .un, .un, .un] ∧ Bk (k + 6) b' ∧ ws.length = n ∧ ∀ x ∈ ws, 0 ≤ x ∧ x ≤ 5 * n) ?_ ?_
  · simp_arith [encB_entry, encB_fz, encB_io, encB_outs]
    refine gd_of (okR_of (by omega) (by omega)) ?_
    rw [Int.toNat_natCast]
    refine w_lcL (fun i : Nat => .int (0 + (i : Int))) (fun rest acc S => ∃ (ws : List Int) (b' : Bag), S = [.io (encB b'), .v (.fz (.int n)), .v (.fz (.bool told)), .v (.fz (.bool twice)), .un, .un, .un, .un, .un, .un, .un, .un, .un, .un] ∧ acc = (ws.map PyData.int).map OV.fz ∧ Bk (k + ws.length) b' ∧ ws.length + rest.length = n ∧ ∀ x ∈ ws, 0 ≤ x ∧ x ≤ 5 * n) (as := List.range n) ⟨[], b, rfl, rfl, h, by simp, fun _ h => nomatch h⟩ ?_ ?_
    · rintro a as acc _ ⟨ws, b2, rfl, rfl, hb2, hl, hs⟩
      simp only [List.length_cons] at hl
      unfold ce__law_silent_rows_1
      simp_arith [encB_entry, encB_fz, v_mul, w1_ite]
      refine gd_of (okMul_small (by decide) (Nat.lt_of_lt_of_le (by omega : ((n : Int)).natAbs < 2 ^ 10) (Nat.pow_le_pow_right (by decide) (by decide)))) ?_
      simp_arith [encB_entry, encB_fz, encB_io, encB_outs]
      refine w_take hb2 (by omega) (by omega) (by omega) fun v b3 hb3 v0 v1 => ?_
      simp_arith [encB_entry, encB_fz, encB_io, encB_outs]
      refine gd_of (by rw [x_size]; simp; omega) ⟨ws ++ [v], b3, rfl, by simp, hb3.mono (by simp; omega), by simp; omega, fun x hx => ?_⟩
      rcases List.mem_append.1 hx with hx | hx
      · exact hs x hx
      · simp at hx; subst hx; exact ⟨v0, by omega⟩
    · rintro _ _ ⟨ws, b2, rfl, rfl, hb2, hl, hs⟩
      simp_arith [encB_entry, encB_fz, encB_io, encB_outs]
      simp only [List.length_nil] at hl
      exact ⟨ws, b2, rfl, hb2.mono (by omega), by omega, hs⟩
  rintro _ ⟨ws, b1, rfl, hb1, hw, hws⟩
  refine w_seq (fun S1 => ∃ (owns : List Nat) (b' : Bag), S1 = Sio (.io (encB b')) n told twice ws (.v (.fz (.list (owns.map fun u : Nat => .int (u : Int))))) [] .un .un .un .un .un .un .un ∧ Bk (k + 12) b' ∧ owns.Perm (List.range n)) ?_ ?_
  · simp_arith [encB_entry, encB_fz, encB_io, encB_outs]
    refine gd_of (by simp [okR_of (i := (n : Int)) (by omega) (by omega)]; omega) ?_
    rw [Int.toNat_natCast]
    simp_arith [encB_entry, encB_fz, encB_io, encB_outs]
    refine w_mixed hb1 (by omega) (by simp [rangeD]; omega) fun es b2 hb2 hp => ?_
    rw [rangeD0] at hp
    obtain ⟨l, rfl, hl⟩ := perm_map_inv hp.symm _ rfl
    simp_arith [encB_entry, encB_fz, encB_io, encB_outs]
    rw [rangeD0] at hb2
    exact ⟨l, b2, rfl, hb2.mono (by simp; omega), hl⟩
  rintro _ ⟨owns, b2, rfl, hb2, hp⟩
  have hr : ∀ u, u < n → 0 ≤ wAt ws u ∧ wAt ws u ≤ 5 * n := fun u hu => by
    have hu' : u < ws.length := by omega
    have := hws ws[u] (List.getElem_mem hu')
    simpa [wAt, hu'] using this
  have hol : owns.length = n := by rw [hp.length_eq, List.length_range]
  refine w_seq (fun S1 => ∃ (rows : List Row) (b' : Bag), S1 = Sio (.io (encB b')) n told twice ws (.v (.fz (.list (owns.map fun u : Nat => .int (u : Int))))) rows .un .un .un .un .un .un .un ∧ Bk (k + 400) b' ∧ All2 (SilRow n (wAt ws) told twice) owns rows) ?_ ?_
  · simp_arith [encB_entry, encB_fz, encB_io, encB_outs]
    refine w_forL (fun u : Nat => .int (u : Int)) (fun rest S => ∃ (rows : List Row) (done : List Nat) (b' : Bag), S = Sio (.io (encB b')) n told twice ws (.v (.fz (.list (owns.map fun u : Nat => .int (u : Int))))) rows .un .un .un .un .un .un .un ∧ done ++ rest = owns ∧ Bk (k + 12 + 60 * done.length) b' ∧ All2 (SilRow n (wAt ws) told twice) done rows) (as := owns) ⟨[], [], b2, rfl, rfl, hb2, .nil⟩ ?_ ?_
    · rintro a as _ ⟨rows, done, b3, rfl, hdn, hb3, hA⟩
      have hlen : done.length + (as.length + 1) = n := by rw [← hol, ← hdn]; simp
      have ha : a < n := List.mem_range.1 (hp.mem_iff.1 (by rw [← hdn]; simp))
      unfold fg__law_silent_rows_2
      simp_arith [encB_entry, encB_fz, encB_io, encB_outs]
      refine row_draw hn hw hr ha (by rw [← hA.length]; omega) hb3 (by omega) fun r b4 s8 s9 s10 s11 s12 hb4 hrw => ?_
      simp_arith [encB_entry, encB_fz, encB_io, encB_outs]
      exact ⟨rows ++ [r], done ++ [a], b4, rfl, by simp [hdn], hb4.mono (by simp; omega), hA.snoc hrw⟩
    · rintro _ ⟨rows, done, b3, rfl, hdn, hb3, hA⟩
      rw [List.append_nil] at hdn
      subst hdn
      exact ⟨rfl, rows, b3, rfl, hb3.mono (by omega), hA⟩
  rintro _ ⟨rows, b3, rfl, hb3, hA⟩
  simp_arith [encB_entry, encB_fz, encB_io, encB_outs]
  exact q rows b3 hb3 ⟨wAt ws, owns, hp, hr, hA⟩
theorem w_silent_table (h : Bk k b) (hk : k < 2 ^ 46) {n : Nat} (hn : n ≤ 6) {told : Bool} (q : ∀ rows b', Bk (k + 400) b' → SilTab n told (!told) rows → Q (.fz (encTab n rows)) [encB b', .fz (.int n), .fz (.bool told)]) :
    W (m__law_silent_table [encB b, .fz (.int n), .fz (.bool told)]) Q := by
  unfold m__law_silent_table
  simp_arith [encB_entry, encB_fz, encB_io, encB_outs]
  unfold mb__law_silent_table
  simp_arith [encB_entry, encB_fz, encB_io, encB_outs]
  refine w_silent_rows h hk hn fun rows b' hb' hs => ?_
  simp_arith [encB_entry, encB_fz, encB_io, encB_outs]
  exact q rows b' hb' hs
end PD
set_option Elab.async false
set_option linter.all false
set_option maxRecDepth 100000
set_option maxHeartbeats 4000000
set_option exponentiation.threshold 5000
namespace PD
open PySem L2 PD.G
variable {k : Nat} {b : Bag} {Q : OV → List OV → Prop}
theorem tab_0 {n : Nat} {rs : List Row} : gIx (.fz (encTab n rs)) (.fz (.int 0)) = some (.fz (.int n)) := rfl
theorem tab_1 {n : Nat} {rs : List Row} : gIx (.fz (encTab n rs)) (.fz (.int 1)) = some (.fz (.tuple (rs.map encRow))) := rfl
theorem v_slTo {ds : List PyData} {n : Nat} : gSl (.fz (.list ds)) none (some (n : Int)) = some (.ol ((ds.take n).map OV.fz)) := by
  show some (OV.ol ((cutD ds none (some (n : Int))).map OV.fz)) = _
  rw [cut_to]
theorem v_catFL {a b : List PyData} : gAddX (.fz (.list a)) (.ol (b.map OV.fz)) = if a.length + b.length ≤ sizeLine then some (.ol ((a ++ b).map OV.fz)) else none := by
  have i1 : itemsL (.fz (.list a)) = some a := rfl
  have i2 : itemsL (.ol (b.map OV.fz)) = some b := allFz_fz b
  unfold gAddX
  simp only [i1, i2]
theorem w_square (h : Bk k b) (hk : k < 2 ^ 45) (q : ∀ (n : Nat) rows b', Bk (k + 10000) b' → n ≤ 4 → rows.length = n → (∀ r ∈ rows, RowU n r) → Q (.fz (encTab n rows)) [encB b', .fz (.int 4)]) :
    W (m__law_square [encB b, .fz (.int 4)]) Q := by
  unfold m__law_square
  simp_arith [encB_entry, encB_fz, encB_io, encB_outs]
  unfold mb__law_square
  refine w_seq (fun S1 => ∃ (n : Nat) (b' : Bag), S1 = [.io (encB b'), .v (.fz (.int 4)), .v (.fz (.int n)), .un, .un] ∧ Bk (k + 1) b' ∧ n ≤ 4) ?_ ?_
  · simp_arith [encB_entry, encB_fz, encB_io, encB_outs]
    refine w_someI [4, 2, 3, 1, 2, 0] h (by omega) (by simp) (by simp) fun x b1 hb1 hx => ?_
    simp_arith [encB_entry, encB_fz, encB_io, encB_outs]
    simp only [List.mem_cons, List.not_mem_nil, or_false] at hx
    refine ⟨x.toNat, b1, ?_, hb1, by omega⟩
    rw [Int.toNat_of_nonneg (by omega)]
  rintro _ ⟨n, b1, rfl, hb1, hn⟩
  simp_arith [encB_entry, encB_fz, encB_io, encB_outs]
  refine w_take hb1 (by omega) (by omega) (by omega) fun v b2 hb2 v0 v1 => ?_
  simp_arith [encB_entry, encB_fz, encB_io, encB_outs]
  refine br_dec (fun hv => ?_) fun hv => ?_
  · simp_arith [encB_entry, encB_fz, encB_io, encB_outs]
    refine w_take hb2 (by omega) (by omega) (by omega) fun u b3 hb3 u0 u1 => ?_
    simp_arith [encB_entry, encB_fz, encB_io, encB_outs]
    refine w_silent_table hb3 (by omega) (by omega) fun rows b4 hb4 hs => ?_
    simp_arith [encB_entry, encB_fz, encB_io, encB_outs]
    exact q n rows b4 (hb4.mono (by omega)) hn hs.ln hs.row
  · simp_arith [encB_entry, encB_fz, encB_io, encB_outs]
    refine w_any_table hb2 (by omega) (by omega) (by omega) (by omega) fun rs b3 hb3 hrs hl => ?_
    simp_arith [encB_fz, tab_1]
    refine gd_of (okR_of (by omega) (by omega)) ?_
    rw [Int.toNat_natCast]
    refine w_lcL (fun i : Nat => .int (0 + (i : Int))) (fun rest acc S => ∃ (rs' : List Row) (b' : Bag), S = [.io (encB b'), .v (.fz (.int 4)), .v (.fz (.int n)), .un, .un] ∧ acc = (rs'.map encRow).map OV.fz ∧ Bk (k + 5002 + 40 * rs'.length) b' ∧ rs'.length + rest.length = n ∧ ∀ r ∈ rs', RowU n r) (as := List.range n) ⟨[], b3, rfl, rfl, hb3.mono (by simp <;> omega), by simp, fun _ h => nomatch h⟩ ?_ ?_
    · rintro a as acc _ ⟨rs', b4, rfl, rfl, hb4, hl', hs⟩
      simp only [List.length_cons] at hl'
      unfold ce__law_square_1
      simp_arith [encB_entry, encB_fz, encB_io, encB_outs]
      refine w_any_row hb4 (by omega) (by omega) (by omega) fun r b5 hb5 hr => ?_
      simp_arith [encB_entry, encB_fz, encB_io, encB_outs]
      refine gd_of (by rw [x_size]; simp; omega) ⟨rs' ++ [r], b5, rfl, by simp, hb5.mono (by simp; omega), by simp; omega, fun x hx => ?_⟩
      rcases List.mem_append.1 hx with hx | hx
      · exact hs x hx
      · simp at hx; subst hx; exact hr
    · rintro _ _ ⟨rs', b4, rfl, rfl, hb4, hl', hs⟩
      simp only [List.length_nil, Nat.add_zero] at hl'
      simp_arith [encB_fz, v_catFL, w1_ite]
      refine gd_of (by rw [x_size]; simp; omega) ?_
      simp_arith [encB_fz, v_slTo]
      have e : ((rs.map encRow ++ rs'.map encRow).take n) = ((rs ++ rs').take n).map encRow := by rw [List.map_take, List.map_append]
      rw [e]
      simp_arith [encB_entry, encB_fz, encB_io, encB_outs]
      refine q n ((rs ++ rs').take n) b4 (hb4.mono (by omega)) hn (by simp; omega) fun r hr => ?_
      rcases List.mem_append.1 (List.mem_of_mem_take hr) with z | z
      · exact hrs r z
      · exact hs r z
/-- the law's bag of a script -/
def bagOf (ns : List Int) : Bag := ⟨0, 1234567891, 0, ns.map fun n => if n < 0 then -n else n⟩
theorem bag_run {ns : List Int} (h : ns.length ≤ 63) : m__law_bag [.fz (scrD (ns.map PyData.int))] = some (encB (bagOf ns), [.fz (scrD (ns.map PyData.int))]) := by
  apply W.eq
  unfold m__law_bag
  simp_arith
  unfold mb__law_bag
  have e : gSl (.fz (scrD (ns.map PyData.int))) none (some 63) = some (.ol ((ns.map PyData.int).map OV.fz)) := by
    unfold gSl scrD
    simp only
    have := cut_to (ns.map PyData.int) 63
    rw [show ((63 : Nat) : Int) = 63 from rfl] at this
    rw [this, List.take_of_length_le (by simpa using h)]
  simp_arith [e]
  refine w_lcMap PyData.int (fun _ => true) (fun n => .fz (.int (if n < 0 then -n else n))) (fun n _ => ?_) (by rw [x_size]; omega) ?_
  · unfold ce__law_bag_1
    simp_arith
    refine ⟨fun _ => ?_, fun z => by simp at z⟩
    simp_arith [v_abs]
  · have e2 : (ns.filter fun _ => true).map (fun n => OV.fz (.int (if n < 0 then -n else n))) = ((ns.map fun n : Int => PyData.int (if n < 0 then -n else n))).map OV.fz := by
      have ef : (ns.filter fun _ => true) = ns := by simp
      rw [ef, List.map_map]
      rfl
    rw [e2]
    simp_arith
    unfold encB bagOf
    simp [Function.comp_def]
theorem bag_ok {ns : List Int} (h : ns.length ≤ 63) : Bk 0 (bagOf ns) := by
  refine ⟨⟨Int.le_refl _, by show (0 : Int) ≤ 1234567891; omega, by show (1234567891 : Int) < 2147483647; omega, Int.le_refl _, by show (0 : Int) < 2 ^ 60; omega, fun n hn => ?_, by show (ns.map _).length ≤ 63; simpa using h⟩, Int.le_refl _⟩
  obtain ⟨m, _, rfl⟩ := List.mem_map.1 hn
  split <;> omega
end PD
set_option Elab.async false
set_option linter.all false
set_option maxRecDepth 100000
set_option maxHeartbeats 4000000
/-! the table of polynomials is the sum over all ways -/
namespace PD
open PySem L2 PD.G
/-! ### sums -/
def sm {A : Type} : List A → (A → Rat) → Rat
  | [], _ => 0
  | a :: l, f => f a + sm l f
theorem sm_append {A : Type} (f : A → Rat) : ∀ l m : List A, sm (l ++ m) f = sm l f + sm m f
  | [], m => by simp [sm]; grind
  | a :: l, m => by simp only [List.cons_append, sm, sm_append f l m]; grind
theorem sm_congr {A : Type} {f g : A → Rat} : ∀ {l : List A}, (∀ a ∈ l, f a = g a) → sm l f = sm l g
  | [], _ => rfl
  | a :: l, h => by simp only [sm]; rw [h a List.mem_cons_self, sm_congr fun x hx => h x (List.mem_cons_of_mem _ hx)]
theorem sm_map {A B : Type} (f : B → Rat) (m : A → B) : ∀ l : List A, sm (l.map m) f = sm l fun a => f (m a)
  | [] => rfl
  | a :: l => by simp only [List.map_cons, sm, sm_map f m l]
theorem sm_flatMap {A B : Type} (f : B → Rat) (m : A → List B) : ∀ l : List A, sm (l.flatMap m) f = sm l fun a => sm (m a) f
  | [] => rfl
  | a :: l => by rw [List.flatMap_cons, sm_append, sm_flatMap f m l]; rfl
theorem sm_zero {A : Type} : ∀ l : List A, sm l (fun _ => 0) = 0
  | [] => rfl
  | a :: l => by simp only [sm, sm_zero l]; grind
theorem sm_add {A : Type} (f g : A → Rat) : ∀ l : List A, sm l (fun a => f a + g a) = sm l f + sm l g
  | [] => by simp only [sm]; grind
  | a :: l => by simp only [sm, sm_add f g l]; grind
theorem sm_mul {A : Type} (s : Rat) (f : A → Rat) : ∀ l : List A, sm l (fun a => s * f a) = s * sm l f
  | [] => by simp [sm]
  | a :: l => by simp only [sm, sm_mul s f l]; grind
theorem sm_filter {A : Type} (f : A → Rat) (p : A → Bool) : ∀ l : List A, sm (l.filter p) f = sm l fun a => if p a then f a else 0
  | [] => rfl
  | a :: l => by
    rw [List.filter_cons]
    by_cases h : p a = true
    · simp only [h, if_true, sm, sm_filter f p l]
    · simp only [h, sm]
      rw [← sm_filter f p l]
      simp
      grind
/-! ### numbers as functions -/
def conv (f : Int → Rat) : Tms → Int → Rat
  | [], _ => 0
  | u :: b, k => f (k - u.1) * u.2 + conv f b k
theorem conv_zero (b : Tms) (k : Int) : conv (fun _ => 0) b k = 0 := by
  induction b with
  | nil => rfl
  | cons u b ih => simp only [conv, ih]; grind
theorem conv_add (f g : Int → Rat) (b : Tms) (k : Int) : conv (fun x => f x + g x) b k = conv f b k + conv g b k := by
  induction b with
  | nil => simp only [conv]; grind
  | cons u b ih => simp only [conv, ih]; grind
theorem conv_mul (s : Rat) (f : Int → Rat) (b : Tms) (k : Int) : conv (fun x => s * f x) b k = s * conv f b k := by
  induction b with
  | nil => simp [conv]
  | cons u b ih => simp only [conv, ih]; grind
theorem val_one (t : Int × Rat) (b : Tms) (k : Int) : val (b.map fun u => (t.1 + u.1, t.2 * u.2)) k = conv (fun x => if t.1 = x then t.2 else 0) b k := by
  induction b with
  | nil => rfl
  | cons u b ih =>
    simp only [List.map_cons, val, conv, ih]
    by_cases h : t.1 + u.1 = k
    · have : t.1 = k - u.1 := by omega
      rw [if_pos h, if_pos this]
    · have : ¬ t.1 = k - u.1 := by omega
      rw [if_neg h, if_neg this]
      grind
theorem val_prod (a b : Tms) (k : Int) : val (prodT a b) k = conv (val a) b k := by
  induction a with
  | nil =>
    show val [] k = conv (val []) b k
    have : val [] = fun _ => 0 := rfl
    rw [this, conv_zero]
  | cons t a ih =>
    have : prodT (t :: a) b = (b.map fun u => (t.1 + u.1, t.2 * u.2)) ++ prodT a b := by simp [prodT]
    rw [this, val_append, ih, val_one, ← conv_add]
    rfl
theorem val_mulN (a b : Tms) (k : Int) : val (mulN a b) k = conv (val a) b k := by
  unfold mulN
  rw [cano_val, val_prod]
theorem val_addN (a b : Tms) (k : Int) : val (addN a b) k = val a k + val b k := by
  unfold addN
  rw [cano_val, val_append]
/-! ### polynomials as functions -/
abbrev Fn := Nat → Int → Rat
def vP (p : List Tms) : Fn := fun j k => val (p.getD j []) k
def addF (P Q : Fn) : Fn := fun j k => P j k + Q j k
def mulF (s : Rat) (P : Fn) : Fn := fun j k => s * P j k
def EntF (b : Tms) (own : Bool) (P : Fn) : Fn := fun j k => conv (P j) b k - if own = true ∧ 0 < j then P (j - 1) k else 0
theorem EntF_add (b : Tms) (own : Bool) (P Q : Fn) : EntF b own (addF P Q) = addF (EntF b own P) (EntF b own Q) := by
  funext j k
  unfold EntF addF
  rw [conv_add]
  split <;> grind
theorem EntF_mul (b : Tms) (own : Bool) (s : Rat) (P : Fn) : EntF b own (mulF s P) = mulF s (EntF b own P) := by
  funext j k
  unfold EntF mulF
  rw [conv_mul]
  split <;> grind
theorem vP_led (p : List Tms) (b : Tms) (j : Nat) (k : Int) : vP (ledN p b) j k = conv (vP p j) b k := by
  unfold vP ledN
  by_cases h : j < p.length
  · simp [List.getD, h, val_mulN]
  · have h1 : p.getD j [] = [] := by simp [List.getD, h]
    have h2 : (p.map fun a => mulN a b).getD j [] = [] := by simp [List.getD, h]
    rw [h1, h2]
    have : val [] = fun _ => 0 := rfl
    rw [this, conv_zero]
theorem vP_add {p q : List Tms} (h : q.length = p.length) : vP (addP p q) = addF (vP p) (vP q) := by
  funext j k
  unfold vP addP addF
  by_cases hj : j < p.length
  · have hj2 : j < q.length := by omega
    simp [List.getD, hj, hj2, List.getElem?_zipWith, val_addN]
  · have hj2 : ¬ j < q.length := by omega
    have e1 : p.getD j [] = [] := by simp [List.getD, hj]
    have e2 : q.getD j [] = [] := by simp [List.getD, hj2]
    have e3 : (List.zipWith addN p q).getD j [] = [] := by simp [List.getD, List.getElem?_zipWith, hj]
    show val _ k = val _ k + val _ k
    rw [e1, e2, e3]
    simp only [val]
    grind
theorem vP_snoc0 (p : List Tms) : vP (p ++ [[]]) = vP p := by
  funext j k
  unfold vP
  by_cases hj : j < p.length
  · simp [List.getD, hj, List.getElem?_append_left hj]
  · have e1 : p.getD j [] = [] := by simp [List.getD, hj]
    have e2 : (p ++ [[]]).getD j [] = [] := by
      simp only [List.getD]
      rw [List.getElem?_append_right (by omega)]
      by_cases h : j - p.length = 0
      · simp [h]
      · have : ([[]] : List Tms)[j - p.length]? = none := by simp; omega
        rw [this]; rfl
    rw [e1, e2]
theorem vP_cons0 (p : List Tms) (j : Nat) (k : Int) : vP ([] :: p) j k = if 0 < j then vP p (j - 1) k else 0 := by
  unfold vP
  cases j with
  | zero => simp
  | succ j => simp
theorem conv_neg1 (f : Int → Rat) (k : Int) : conv f neg1 k = - f k := by
  unfold neg1 conv conv
  have : (((-1 : Int) : Rat)) = -1 := rfl
  rw [this, Int.sub_zero]
  grind
theorem vP_ent (p : List Tms) (b : Tms) (own : Bool) : vP (entP p b own) = EntF b own (vP p) := by
  unfold entP
  cases own with
  | false =>
    rw [if_neg (by simp), vP_snoc0]
    funext j k
    rw [vP_led]
    unfold EntF
    simp
    grind
  | true =>
    rw [if_pos rfl, vP_add (by simp [ledN_len])]
    funext j k
    unfold addF EntF
    rw [vP_snoc0, vP_led, vP_cons0]
    by_cases h : 0 < j
    · rw [if_pos h, if_pos ⟨rfl, h⟩, vP_led, conv_neg1]
      grind
    · rw [if_neg h, if_neg (fun z => h z.2)]
      grind
theorem conv_sgn (f : Int → Rat) (s : Int) (k : Int) : conv f [(0, (s : Rat))] k = (s : Rat) * f k := by
  unfold conv conv
  rw [Int.sub_zero]
  grind
theorem vP_ledE (i : Nat) (S : List Nat) (p : List Tms) (c : Nat) (b : Tms) : vP (ledE i S p c b) = mulF (sgn S c : Rat) (EntF b (c == i) (vP p)) := by
  funext j k
  unfold ledE
  rw [vP_led, conv_sgn, vP_ent]
  rfl
/-! ### what is linear -/
structure Lin (g : Fn → Rat) : Prop where
  ad : ∀ P Q, g (addF P Q) = g P + g Q
  mu : ∀ s P, g (mulF s P) = s * g P
def G' (g : List Nat → Fn → Rat) (e : List Nat × List Tms) : Rat := g e.1 (vP e.2)
theorem sm_putP (g : List Nat → Fn → Rat) {S : List Nat} {p : List Tms} : ∀ {L : CT}, (L.map (·.1)).Nodup → sm (putP S p L) (G' g) = sm L (G' g) + g S (vP p) - (match getP S L with
    | some q => g S (vP q)
    | none => 0)
  | [], _ => by simp only [putP, sm, G', getP]; grind
  | e :: L, h => by
    rw [List.map_cons, List.nodup_cons] at h
    unfold putP getP
    by_cases he : e.1 = S
    · rw [if_pos he, if_pos he]
      simp only [sm, G', he]
      grind
    · rw [if_neg he, if_neg he]
      simp only [sm]
      rw [sm_putP g h.2]
      grind
/-- what one entry adds -/
def stp (g : List Nat → Fn → Rat) (i : Nat) (S : List Nat) (P : Fn) (c : Nat) (b : Tms) : Rat :=
  if c ∈ S then 0 else g (ksrt (S ++ [c])) (mulF (sgn S c : Rat) (EntF b (c == i) P))
structure TOk (len : Nat) (L : CT) : Prop where
  nd : (L.map (·.1)).Nodup
  ln : ∀ e ∈ L, e.2.length = len
theorem ledE_len {i : Nat} {S : List Nat} {p : List Tms} {c : Nat} {b : Tms} : (ledE i S p c b).length = p.length + 1 := by
  unfold ledE
  rw [ledN_len, entP_len]
theorem putE_sum {g : List Nat → Fn → Rat} (hg : ∀ S, Lin (g S)) {i : Nat} {S : List Nat} {p : List Tms} {L : CT} (h : TOk (p.length + 1) L) (c : Nat) (b : Tms) :
    sm (putE i S p L c b) (G' g) = sm L (G' g) + stp g i S (vP p) c b ∧ TOk (p.length + 1) (putE i S p L c b) := by
  unfold putE stp
  by_cases hc : c ∈ S
  · rw [if_pos hc, if_pos hc]
    exact ⟨by grind, h⟩
  · rw [if_neg hc, if_neg hc]
    cases hq : getP (ksrt (S ++ [c])) L with
    | none =>
      refine ⟨?_, (putP_keys _ _ _).2.1 h.nd, fun e he => ?_⟩
      · simp only
        rw [sm_putP g h.nd, hq, vP_ledE]
        simp only
        grind
      · rcases putP_mem he with z | z
        · rw [z]; exact ledE_len
        · exact h.ln e z
    | some q =>
      have hl := h.ln _ (getP_mem hq)
      simp only at hl
      refine ⟨?_, (putP_keys _ _ _).2.1 h.nd, fun e he => ?_⟩
      · simp only
        rw [sm_putP g h.nd, hq, vP_add (by rw [ledE_len, hl]), vP_ledE, (hg _).ad]
        simp only
        grind
      · rcases putP_mem he with z | z
        · rw [z]
          simp only
          rw [addP_len (by rw [ledE_len, hl]), hl]
        · exact h.ln e z
theorem colsE_sum {g : List Nat → Fn → Rat} (hg : ∀ S, Lin (g S)) {i : Nat} {S : List Nat} {p : List Tms} : ∀ (xs : List (Tms × Nat)) {L : CT}, TOk (p.length + 1) L →
    sm (colsE i S p xs L) (G' g) = sm L (G' g) + sm xs (fun x => stp g i S (vP p) x.2 x.1) ∧ TOk (p.length + 1) (colsE i S p xs L)
  | [], L, h => by
    refine ⟨?_, h⟩
    simp only [colsE, sm]
    grind
  | x :: xs, L, h => by
    obtain ⟨e1, h1⟩ := putE_sum hg (i := i) (S := S) h x.2 x.1
    obtain ⟨e2, h2⟩ := colsE_sum hg (i := i) (S := S) xs h1
    refine ⟨?_, h2⟩
    simp only [colsE, sm]
    rw [e2, e1]
    grind
theorem rowE_sum {g : List Nat → Fn → Rat} (hg : ∀ S, Lin (g S)) {i len : Nat} {row : List Tms} : ∀ (D : CT) {L : CT}, (∀ e ∈ D, e.2.length = len) → TOk (len + 1) L →
    sm (rowE i row D L) (G' g) = sm L (G' g) + sm D (fun e => sm row.zipIdx fun x => stp g i e.1 (vP e.2) x.2 x.1) ∧ TOk (len + 1) (rowE i row D L)
  | [], L, _, h => by
    refine ⟨?_, h⟩
    simp only [rowE, sm]
    grind
  | e :: D, L, hD, h => by
    have hl := hD e List.mem_cons_self
    subst hl
    obtain ⟨e1, h1⟩ := colsE_sum hg (i := i) (S := e.1) (p := e.2) row.zipIdx h
    obtain ⟨e2, h2⟩ := rowE_sum hg (i := i) (row := row) D (fun x hx => hD x (List.mem_cons_of_mem _ hx)) h1
    refine ⟨?_, h2⟩
    simp only [rowE, sm]
    rw [e2, e1]
    grind
end PD
set_option Elab.async false
set_option linter.all false
set_option maxRecDepth 100000
set_option maxHeartbeats 4000000
namespace PD
open PySem L2 PD.G
theorem sorted_eq : ∀ {l m : List Nat}, l.Pairwise (· ≤ ·) → m.Pairwise (· ≤ ·) → l.Perm m → l = m
  | [], m, _, _, h => h.nil_eq
  | a :: l, [], _, _, h => h.symm.nil_eq.symm
  | a :: l, b :: m, h1, h2, h => by
    rw [List.pairwise_cons] at h1 h2
    have e : a = b := by
      have ha : a ∈ b :: m := h.mem_iff.1 List.mem_cons_self
      have hb : b ∈ a :: l := h.mem_iff.2 List.mem_cons_self
      rcases List.mem_cons.1 ha with z | z
      · exact z
      · rcases List.mem_cons.1 hb with y | y
        · exact y.symm
        · have := h1.1 _ y
          have := h2.1 _ z
          omega
    subst e
    rw [sorted_eq h1.2 h2.2 h.cons_inv]
theorem ksrt_perm (l : List Nat) : (ksrt l).Perm l := List.mergeSort_perm _ _
theorem ksrt_sorted (l : List Nat) : (ksrt l).Pairwise (· ≤ ·) := by
  have := List.pairwise_mergeSort (le := fun a b : Nat => decide (a ≤ b)) (fun a b c h1 h2 => by simp at *; omega) (fun a b => by simp; omega) l
  exact this.imp fun h => by simpa using h
theorem ksrt_congr {l m : List Nat} (h : l.Perm m) : ksrt l = ksrt m := sorted_eq (ksrt_sorted l) (ksrt_sorted m) ((ksrt_perm l).trans (h.trans (ksrt_perm m).symm))
theorem ksrt_range {l : List Nat} {n : Nat} (h : l.Perm (List.range n)) : ksrt l = List.range n :=
  sorted_eq (ksrt_sorted l) (List.pairwise_le_range) ((ksrt_perm l).trans h)
theorem sgn_perm {l m : List Nat} (h : l.Perm m) (c : Nat) : sgn l c = sgn m c := by
  unfold sgn
  rw [(h.filter _).length_eq]
/-! ### the ways to pair -/
def waysN (n : Nat) : Nat → List (Int × List Nat)
  | 0 => [(1, [])]
  | i + 1 => (waysN n i).flatMap fun x => ((List.range n).filter fun c => decide (c ∉ x.2)).map fun c => (x.1 * sgn x.2 c, x.2 ++ [c])
theorem waysN_len {n : Nat} : ∀ {i : Nat} {x : Int × List Nat}, x ∈ waysN n i → x.2.length = i
  | 0, x, h => by
    simp [waysN] at h
    rw [h]
    rfl
  | i + 1, x, h => by
    obtain ⟨y, hy, hx⟩ := List.mem_flatMap.1 h
    obtain ⟨c, _, rfl⟩ := List.mem_map.1 hx
    simp [waysN_len hy]
theorem waysN_pm {n : Nat} : ∀ {i : Nat} {x : Int × List Nat}, x ∈ waysN n i → x.1 = 1 ∨ x.1 = -1
  | 0, x, h => by
    simp [waysN] at h
    rw [h]
    exact .inl rfl
  | i + 1, x, h => by
    obtain ⟨y, hy, hx⟩ := List.mem_flatMap.1 h
    obtain ⟨c, _, rfl⟩ := List.mem_map.1 hx
    simp only
    rcases waysN_pm hy with z | z <;> rcases sgn_pm y.2 c with w | w <;> rw [z, w] <;> decide
theorem waysN_lt {n : Nat} : ∀ {i : Nat} {x : Int × List Nat}, x ∈ waysN n i → ∀ c ∈ x.2, c < n
  | 0, x, h => by
    simp [waysN] at h
    rw [h]
    exact fun _ h => nomatch h
  | i + 1, x, h => by
    obtain ⟨y, hy, hx⟩ := List.mem_flatMap.1 h
    obtain ⟨c, hc, rfl⟩ := List.mem_map.1 hx
    intro d hd
    rcases List.mem_append.1 hd with z | z
    · exact waysN_lt hy d z
    · simp at z
      subst z
      exact List.mem_range.1 (List.mem_filter.1 hc).1
theorem waysN_perm : ∀ n ≤ 4, ∀ x ∈ waysN n n, x.2.isPerm (List.range n) = true := by decide +kernel
def dl : Fn := fun j k => if j = 0 ∧ k = 0 then 1 else 0
def TwA (M : List (List Tms)) : List (Nat × Nat) → Fn → Fn
  | [], P => P
  | x :: xs, P => TwA M xs (EntF ((M.getD x.2 []).getD x.1 []) (x.1 == x.2) P)
def Tw (M : List (List Tms)) (w : List Nat) : Fn := TwA M w.zipIdx dl
theorem TwA_append (M : List (List Tms)) : ∀ (xs ys : List (Nat × Nat)) (P : Fn), TwA M (xs ++ ys) P = TwA M ys (TwA M xs P)
  | [], ys, P => rfl
  | x :: xs, ys, P => TwA_append M xs ys _
theorem TwA_mul (M : List (List Tms)) (s : Rat) : ∀ (xs : List (Nat × Nat)) (P : Fn), TwA M xs (mulF s P) = mulF s (TwA M xs P)
  | [], P => rfl
  | x :: xs, P => by
    simp only [TwA]
    rw [EntF_mul, TwA_mul M s xs]
theorem Tw_snoc (M : List (List Tms)) (w : List Nat) (c : Nat) : Tw M (w ++ [c]) = EntF ((M.getD w.length []).getD c []) (c == w.length) (Tw M w) := by
  unfold Tw
  rw [List.zipIdx_append, TwA_append]
  simp [TwA]
theorem vP_start : vP [[(0, (1 : Rat))]] = dl := by
  funext j k
  unfold vP dl
  cases j with
  | zero =>
    by_cases h : k = 0
    · subst h; simp [val]; grind
    · have h' : ¬ 0 = k := fun z => h z.symm
      simp [val, h, h']; grind
  | succ j => simp
theorem mulF_one (P : Fn) : mulF ((1 : Int) : Rat) P = P := by
  funext j k
  unfold mulF
  have : ((1 : Int) : Rat) = 1 := rfl
  rw [this]
  grind
theorem mulF_mulF (s t : Rat) (P : Fn) : mulF s (mulF t P) = mulF (s * t) P := by
  funext j k
  unfold mulF
  grind
/-! ### the table's keys -/
theorem putE_keys {i : Nat} {S : List Nat} {p : List Tms} {L : CT} {c : Nat} {b : Tms} : (∀ x, x ∈ L.map (·.1) → x ∈ (putE i S p L c b).map (·.1)) ∧ (c ∉ S → ksrt (S ++ [c]) ∈ (putE i S p L c b).map (·.1)) := by
  unfold putE
  by_cases h : c ∈ S
  · rw [if_pos h]
    exact ⟨fun x hx => hx, fun z => absurd h z⟩
  · rw [if_neg h]
    exact ⟨fun x hx => ((putP_keys _ _ _).1 x).2 (.inr hx), fun _ => ((putP_keys _ _ _).1 _).2 (.inl rfl)⟩
theorem colsE_keys {i : Nat} {S : List Nat} {p : List Tms} : ∀ (xs : List (Tms × Nat)) {L : CT}, (∀ x, x ∈ L.map (·.1) → x ∈ (colsE i S p xs L).map (·.1)) ∧ ∀ y ∈ xs, y.2 ∉ S → ksrt (S ++ [y.2]) ∈ (colsE i S p xs L).map (·.1)
  | [], L => ⟨fun x hx => hx, fun _ h => nomatch h⟩
  | x :: xs, L => by
    obtain ⟨h1, h2⟩ := putE_keys (i := i) (S := S) (p := p) (L := L) (c := x.2) (b := x.1)
    obtain ⟨h3, h4⟩ := colsE_keys (i := i) (S := S) (p := p) xs (L := putE i S p L x.2 x.1)
    refine ⟨fun y hy => h3 y (h1 y hy), fun y hy hn => ?_⟩
    rcases List.mem_cons.1 hy with z | z
    · subst z
      exact h3 _ (h2 hn)
    · exact h4 y z hn
theorem rowE_keys {i : Nat} {row : List Tms} : ∀ (D : CT) {L : CT}, (∀ x, x ∈ L.map (·.1) → x ∈ (rowE i row D L).map (·.1)) ∧ ∀ e ∈ D, ∀ y ∈ row.zipIdx, y.2 ∉ e.1 → ksrt (e.1 ++ [y.2]) ∈ (rowE i row D L).map (·.1)
  | [], L => ⟨fun x hx => hx, fun _ h => nomatch h⟩
  | d :: D, L => by
    obtain ⟨h1, h2⟩ := colsE_keys (i := i) (S := d.1) (p := d.2) row.zipIdx (L := L)
    obtain ⟨h3, h4⟩ := rowE_keys (i := i) (row := row) D (L := colsE i d.1 d.2 row.zipIdx L)
    refine ⟨fun y hy => h3 y (h1 y hy), fun e he y hy hn => ?_⟩
    rcases List.mem_cons.1 he with z | z
    · subst z
      exact h3 _ (h2 y hy hn)
    · exact h4 e z y hy hn
/-! ### the sum -/
theorem TOk.nil {len : Nat} : TOk len [] := ⟨by simp, fun e he => by cases he⟩
structure Inv (M : List (List Tms)) (n i : Nat) (D : CT) : Prop where
  su : ∀ g : List Nat → Fn → Rat, (∀ S, Lin (g S)) → sm D (G' g) = sm (waysN n i) fun x => g (ksrt x.2) (mulF (x.1 : Rat) (Tw M x.2))
  ok : TOk (i + 1) D
  ky : List.range i ∈ D.map (·.1)
theorem Lin.sm {A : Type} {g : A → Fn → Rat} (h : ∀ a, Lin (g a)) (l : List A) : Lin fun P => sm l fun a => g a P := by
  refine ⟨fun P Q => ?_, fun s P => ?_⟩
  · rw [← sm_add]
    exact sm_congr fun a _ => (h a).ad P Q
  · rw [← sm_mul]
    exact sm_congr fun a _ => (h a).mu s P
theorem stp_lin {g : List Nat → Fn → Rat} (hg : ∀ S, Lin (g S)) (i : Nat) (S : List Nat) (c : Nat) (b : Tms) : Lin fun P => stp g i S P c b := by
  unfold stp
  by_cases h : c ∈ S
  · simp only [if_pos h]
    exact ⟨fun _ _ => by grind, fun s _ => by grind⟩
  · simp only [if_neg h]
    refine ⟨fun P Q => ?_, fun s P => ?_⟩
    · rw [EntF_add, ← (hg _).ad]
      congr 1
      funext j k
      unfold mulF addF
      grind
    · rw [EntF_mul, ← (hg _).mu, mulF_mulF, mulF_mulF]
      congr 2
      grind
theorem zipIdx_range (row : List Tms) : row.zipIdx = (List.range row.length).map fun c => (row.getD c [], c) := by
  apply List.ext_getElem
  · simp
  · intro i h1 h2
    simp at h1
    simp [h1]
theorem inv_step {M : List (List Tms)} {n i : Nat} (hi : i < n) {D : CT} (h : Inv M n i D) {row : List Tms} (hr : row = M.getD i []) (hl : row.length = n) : Inv M n (i + 1) (rowE i row D []) := by
  refine ⟨fun g hg => ?_, (rowE_sum (g := fun _ _ => 0) (fun _ => ⟨fun _ _ => by grind, fun s _ => by grind⟩) D h.ok.ln TOk.nil).2, ?_⟩
  · rw [(rowE_sum hg D (i := i) (row := row) h.ok.ln TOk.nil).1]
    have e1 := h.su (fun S P => sm row.zipIdx fun x => stp g i S P x.2 x.1) (fun S => Lin.sm (g := fun (x : Tms × Nat) P => stp g i S P x.2 x.1) (fun x => stp_lin hg i S x.2 x.1) _)
    have e0 : sm ([] : CT) (G' g) = 0 := rfl
    have e2 : sm D (fun e => sm row.zipIdx fun x => stp g i e.1 (vP e.2) x.2 x.1) = sm D (G' fun S P => sm row.zipIdx fun x => stp g i S P x.2 x.1) := rfl
    rw [e0, e2, e1]
    show 0 + _ = sm ((waysN n i).flatMap _) _
    rw [sm_flatMap]
    have : ∀ x : Rat, 0 + x = x := fun x => by grind
    rw [this]
    refine sm_congr fun x hx => ?_
    rw [sm_map, sm_filter, zipIdx_range, sm_map, hl]
    refine sm_congr fun c hc => ?_
    have hp := ksrt_perm x.2
    have hlen := waysN_len hx
    unfold stp
    by_cases hcx : c ∈ x.2
    · rw [if_pos (hp.mem_iff.2 hcx)]
      simp [hcx]
    · rw [if_neg (fun z => hcx (hp.mem_iff.1 z))]
      simp only [hcx, not_false_eq_true, decide_true, if_true]
      rw [ksrt_congr (hp.append_right [c]), sgn_perm hp, Tw_snoc, hlen, ← hr, EntF_mul, mulF_mulF]
      congr 2
      rw [Rat.intCast_mul]
      grind
  · obtain ⟨e, he, hk⟩ := List.mem_map.1 h.ky
    have h2 := (rowE_keys (i := i) (row := row) D (L := [])).2 e he (row.getD i [], i) (by
      rw [zipIdx_range, hl]
      exact List.mem_map.2 ⟨i, List.mem_range.2 hi, rfl⟩) (by rw [hk]; simp)
    rw [hk] at h2
    simp only at h2
    rw [← List.range_succ, ksrt_range (.refl _)] at h2
    exact h2
theorem inv_all {M : List (List Tms)} {n : Nat} (hM : M.length = n) (hl : ∀ row ∈ M, row.length = n) : ∀ (rows : List (List Tms)) (i : Nat) (D : CT), M.drop i = rows → Inv M n i D → Inv M n (i + rows.length) (rowsE i rows D)
  | [], i, D, _, h => h
  | row :: rows, i, D, hd, h => by
    have hlen := congrArg List.length hd
    rw [List.length_drop, List.length_cons] at hlen
    have hi : i < M.length := by omega
    have e1 : row = M.getD i [] := by
      have := List.drop_eq_getElem_cons hi
      rw [this] at hd
      injection hd with hd1 _
      simp [hi, hd1]
    have e2 : M.drop (i + 1) = rows := by
      have := List.drop_eq_getElem_cons hi
      rw [this] at hd
      injection hd with _ hd2
    have := inv_all hM hl rows (i + 1) (rowE i row D []) e2 (inv_step (by omega) h e1 (hl row (by rw [e1]; simp [hi])))
    rw [List.length_cons, show i + (rows.length + 1) = i + 1 + rows.length by omega]
    exact this
theorem inv_start (M : List (List Tms)) (n : Nat) : Inv M n 0 [([], [[(0, (1 : Rat))]])] := by
  refine ⟨fun g hg => ?_, ⟨by simp, fun e he => ?_⟩, by simp⟩
  · simp only [waysN, sm, G']
    rw [vP_start, mulF_one]
    have : ksrt [] = [] := by simp [ksrt]
    rw [this]
    rfl
  · have : e = ([], [[(0, (1 : Rat))]]) := by simpa using he
    subst this
    rfl
theorem sm_key {S : List Nat} {j : Nat} {k : Int} {q : List Tms} : ∀ {D : CT}, (D.map (·.1)).Nodup → getP S D = some q → sm D (G' fun T P => if T = S then P j k else 0) = vP q j k
  | [], _, h => nomatch h
  | e :: D, hn, h => by
    rw [List.map_cons, List.nodup_cons] at hn
    unfold getP at h
    simp only [sm, G']
    by_cases he : e.1 = S
    · rw [if_pos he] at h ⊢
      cases h
      have : sm D (G' fun T P => if T = S then P j k else 0) = sm D fun _ => 0 := sm_congr fun x hx => by
        show (if x.1 = S then _ else _) = (0 : Rat)
        rw [if_neg fun z => hn.1 (by rw [he, ← z]; exact List.mem_map.2 ⟨x, hx, rfl⟩)]
      show _ + sm D (G' fun T P => if T = S then P j k else 0) = _
      rw [this, sm_zero]
      grind
    · rw [if_neg he] at h ⊢
      show _ + sm D (G' fun T P => if T = S then P j k else 0) = _
      rw [sm_key hn.2 h]
      grind
theorem getP_of {S : List Nat} : ∀ {D : CT}, S ∈ D.map (·.1) → ∃ q, getP S D = some q
  | [], h => nomatch h
  | e :: D, h => by
    unfold getP
    by_cases he : e.1 = S
    · exact ⟨e.2, if_pos he⟩
    · rw [if_neg he]
      rw [List.map_cons] at h
      rcases List.mem_cons.1 h with z | z
      · exact absurd z.symm he
      · exact getP_of z
theorem poly_sum {M : List (List Tms)} {n : Nat} (hn : n ≤ 4) (hM : M.length = n) (hl : ∀ row ∈ M, row.length = n) :
    ∃ q, getP (List.range n) (polyD M) = some q ∧ q.length = n + 1 ∧ ∀ j k, vP q j k = sm (waysN n n) fun x => (x.1 : Rat) * Tw M x.2 j k := by
  have h := inv_all hM hl M 0 _ rfl (inv_start M n)
  rw [Nat.zero_add, hM] at h
  obtain ⟨q, hq⟩ := getP_of h.ky
  refine ⟨q, hq, h.ok.ln _ (getP_mem hq), fun j k => ?_⟩
  rw [← sm_key h.ok.nd hq]
  rw [h.su (fun T P => if T = List.range n then P j k else 0) (fun T => by
    by_cases hT : T = List.range n
    · simp only [if_pos hT]; exact ⟨fun _ _ => rfl, fun _ _ => rfl⟩
    · simp only [if_neg hT]; exact ⟨fun _ _ => by grind, fun _ _ => by grind⟩)]
  refine sm_congr fun x hx => ?_
  rw [if_pos (ksrt_range (List.isPerm_iff.1 (waysN_perm n hn x hx)))]
  rfl
end PD
set_option Elab.async false
set_option linter.all false
set_option maxRecDepth 100000
set_option maxHeartbeats 4000000
namespace PD
open PySem L2
section
variable {is vs vs1 : List Nat} {gv gv2 : GV} {g : SM} {ft ft2 : EB} {f : EV} {fj : EI} {QS : Fl → SS → Prop} {QA : List OV → SS → Prop}
theorem w_lcMap' {A : Type} (enc : A → PyData) (c : A → Bool) (o : A → OV) {as : List A} {S : SS} (hw : wipeS vs S = S)
    (h : ∀ a ∈ as, W1 (gv (enc a) S) fun S1 => W (ft S1) fun b S2 => b = c a ∧ (c a = true → W (f S2) fun o' S3 => o' = o a ∧ wipeS vs S3 = S) ∧ (c a = false → wipeS vs S2 = S))
    (hz : as.length ≤ sizeLine) (q : QA ((as.filter c).map o) S) : W (lcL vs gv ft f (as.map enc) [] S) QA := by
  refine w_lcMap enc c o (fun a ha => ?_) hz ?_
  · rw [hw]
    exact h a ha
  · rw [hw]
    simpa using q
theorem w_lcAll {A : Type} (enc : A → PyData) (o : A → OV) {as : List A} {S : SS} (hw : wipeS vs S = S)
    (h : ∀ a ∈ as, W1 (gv (enc a) S) fun S1 => W (f S1) fun o' S3 => o' = o a ∧ wipeS vs S3 = S)
    (hz : as.length ≤ sizeLine) (q : QA (as.map o) S) : W (lcL vs gv bYes f (as.map enc) [] S) QA := by
  refine w_lcMap' enc (fun _ => true) o hw (fun a ha => ?_) hz ?_
  rotate_left
  · have ef : as.filter (fun _ => true) = as := by simp
    rw [ef]
    exact q
  obtain ⟨S1, e, h1⟩ := h a ha
  refine ⟨S1, e, ?_⟩
  show W (bYes S1) _
  rw [w_bYes]
  exact ⟨rfl, fun _ => h1, fun z => by cases z⟩
theorem w_lcAll1 {A : Type} (enc : A → PyData) (o : A → OV) {as : List A} {S : SS} (hne : as ≠ [])
    (h : ∀ a ∈ as, W1 (gv (enc a) (wipeS vs S)) fun S1 => W (f S1) fun o' S3 => o' = o a ∧ wipeS vs S3 = wipeS vs S)
    (hz : as.length ≤ sizeLine) (q : QA (as.map o) (wipeS vs S)) : W (lcL vs gv bYes f (as.map enc) [] S) QA := by
  refine w_lcMap enc (fun _ => true) o (fun a ha => ?_) hz ?_
  · obtain ⟨S1, e, h1⟩ := h a ha
    refine ⟨S1, e, ?_⟩
    show W (bYes S1) _
    rw [w_bYes]
    exact ⟨rfl, fun _ => h1, fun z => by cases z⟩
  · have ef : as.filter (fun _ => true) = as := by simp
    have e2 : as.isEmpty = false := by cases as with | nil => exact absurd rfl hne | cons _ _ => rfl
    rw [ef, e2]
    exact q
end
theorem map_fz' {A : Type} (g : A → PyData) (as : List A) : (as.map fun a => OV.fz (g a)) = (as.map g).map OV.fz := by rw [List.map_map]; rfl
end PD
set_option Elab.async false
set_option linter.all false
set_option maxRecDepth 100000
set_option maxHeartbeats 4000000
set_option exponentiation.threshold 5000
namespace PD
open PySem L2 PD.G
def encWay (x : Int × List Nat) : PyData := .tuple [.int x.1, encK x.2]
def extW (n : Nat) (x : Int × List Nat) : List (Int × List Nat) := ((List.range n).filter fun c => decide (c ∉ x.2)).map fun c => (x.1 * sgn x.2 c, x.2 ++ [c])
theorem waysN_succ (n i : Nat) : waysN n (i + 1) = (waysN n i).flatMap (extW n) := rfl
theorem ext_len (n : Nat) (x : Int × List Nat) : (extW n x).length ≤ n := by
  unfold extW
  rw [List.length_map]
  exact Nat.le_trans (List.length_filter_le _ _) (by simp)
theorem waysN_count (n : Nat) : ∀ i, (waysN n i).length ≤ n ^ i
  | 0 => by simp [waysN]
  | i + 1 => by
    rw [waysN_succ, List.length_flatMap]
    have : ∀ l : List (Int × List Nat), (l.map fun x => (extW n x).length).sum ≤ l.length * n := fun l => by
      induction l with
      | nil => simp
      | cons x l ih =>
        have := ext_len n x
        simp only [List.map_cons, List.sum_cons, List.length_cons, Nat.succ_mul]
        omega
    exact Nat.le_trans (this _) (Nat.mul_le_mul_right n (waysN_count n i))
theorem seq_K (S : List Nat) : seqD (.fz (encK S)) = some (S.map fun c : Nat => PyData.int (c : Int)) := rfl
theorem K_snoc (S : List Nat) (c : Nat) (h : S.length ≤ 100) : gAddX (.fz (encK S)) (.fz (.tuple [.int (c : Int)])) = some (.fz (encK (S ++ [c]))) := by
  unfold encK
  rw [v_cat, if_pos (by rw [x_size]; simp; omega)]
  simp
theorem gt_len (S : List Nat) (c : Nat) : ((S.filter fun x : Nat => decide ((c : Int) < (x : Int))).length : Int) = ((S.filter fun x => decide (c < x)).length : Int) := by
  have : (fun x : Nat => decide ((c : Int) < (x : Int))) = fun x => decide (c < x) := by
    funext x
    simp
  rw [this]
abbrev Pw (n : Nat) (s1 s2 : SV) (l : List (Int × List Nat)) (s4 s5 s6 s7 s8 : SV) : SS := [.v (.fz (.int n)), s1, s2, .v (.ol ((l.map encWay).map OV.fz)), s4, s5, s6, s7, s8]
theorem pair_place {n : Nat} {s1 s2 : SV} {l : List (Int × List Nat)} {x : Int × List Nat} {c : Nat} (hx : x.2.length ≤ 100) (hl : l.length ≤ 10000) {Q : Fl → SS → Prop}
    (q : ∀ s7 : SV, Q .nx (Pw n s1 s2 (l ++ [(x.1 * sgn x.2 c, x.2 ++ [c])]) (.v (.fz (.int x.1))) (.v (.fz (encK x.2))) (.v (.fz (.int c))) s7 .un)) :
    W (fb__law_pairings_1 (Pw n s1 s2 l (.v (.fz (.int x.1))) (.v (.fz (encK x.2))) (.v (.fz (.int c))) .un .un)) Q := by
  unfold fb__law_pairings_1
  simp_arith [seq_K]
  refine w_lcMap' (fun d : Nat => .int (d : Int)) (fun d => decide ((c : Int) < (d : Int))) (fun _ => .fz (.int 1)) rfl (fun d _ => ?_) (by rw [x_size]; omega) ?_
  · unfold ce__law_pairings_2
    simp_arith
    exact ⟨fun _ => trivial, fun _ => trivial⟩
  simp_arith [List.length_map, gt_len, v_div, v_mul, w1_ite]
  have hm : (x.2.filter fun x => decide (c < x)).length ≤ 100 := Nat.le_trans (List.length_filter_le _ _) hx
  have hs : sgn x.2 c = 1 - 2 * (((x.2.filter fun x => decide (c < x)).length : Int) % 2) := rfl
  generalize (x.2.filter fun x => decide (c < x)).length = m at *
  refine gd_of (okDiv_small (by decide) (by decide)) ?_
  simp_arith
  refine gd_of (okMul_small (i := (m : Int) / 2) (j := 2) (Nat.lt_of_lt_of_le (by omega : ((m : Int) / 2).natAbs < 2 ^ 10) (Nat.pow_le_pow_right (by decide) (by decide))) (by decide)) ?_
  simp_arith
  refine br_ndec (fun hne => ?_) fun he => ?_
  · simp_arith [K_snoc x.2 c hx]
    refine gd_of (by rw [x_size]; simp; omega) ?_
    have : sgn x.2 c = -1 := by omega
    refine Eq.mp (congrArg (Q Fl.nx) ?_) (q (.v (.fz (.int m))))
    rw [this]
    simp [modS, SV.put, encWay]
  · simp_arith [K_snoc x.2 c hx]
    refine gd_of (by rw [x_size]; simp; omega) ?_
    have : sgn x.2 c = 1 := by omega
    refine Eq.mp (congrArg (Q Fl.nx) ?_) (q (.v (.fz (.int m))))
    rw [this]
    simp [modS, SV.put, encWay]
theorem pair_way {n : Nat} (hn : n ≤ 10) {s1 s2 : SV} {l : List (Int × List Nat)} {x : Int × List Nat} (hx : x.2.length ≤ 90) (hl : l.length ≤ 9000) {Q : Fl → SS → Prop}
    (q : Q .nx (Pw n s1 s2 (l ++ extW n x) (.v (.fz (.int x.1))) (.v (.fz (encK x.2))) .un .un .un)) :
    W (fb__law_pairings_2 (Pw n s1 s2 l (.v (.fz (.int x.1))) (.v (.fz (encK x.2))) .un .un .un)) Q := by
  unfold fb__law_pairings_2
  simp_arith
  refine gd_of (okR_of (by omega) (by omega)) ?_
  rw [Int.toNat_natCast, rangeD0]
  refine w_lcMap' (fun d : Nat => .int (d : Int)) (fun d => !decide (d ∈ x.2)) (fun d => .fz (.int (d : Int))) rfl (fun d _ => ?_) (by rw [x_size]; simp; omega) ?_
  · simp_arith [gIn_K]
    refine ⟨fun _ => ?_, fun _ => trivial⟩
    unfold ce__law_pairings_1
    simp_arith
  rw [map_fz' (fun d : Nat => PyData.int (d : Int))]
  simp_arith
  have hfl : ((List.range n).filter fun d => !decide (d ∈ x.2)).length ≤ n := Nat.le_trans (List.length_filter_le _ _) (by simp)
  have hext : extW n x = ((List.range n).filter fun d => !decide (d ∈ x.2)).map fun c => (x.1 * sgn x.2 c, x.2 ++ [c]) := by simp [extW]
  rw [hext] at q
  generalize (List.range n).filter (fun d => !decide (d ∈ x.2)) = cs at *
  refine w_forL (fun d : Nat => .int (d : Int)) (fun rest S => ∃ done : List Nat, done ++ rest = cs ∧ S = Pw n s1 s2 (l ++ done.map fun c => (x.1 * sgn x.2 c, x.2 ++ [c])) (.v (.fz (.int x.1))) (.v (.fz (encK x.2))) .un .un .un) (as := cs) ⟨[], rfl, by simp⟩ ?_ ?_
  · rintro a as _ ⟨done, hd, rfl⟩
    have hdl : done.length ≤ n := by have := congrArg List.length hd; simp at this; omega
    unfold fg__law_pairings_1
    simp_arith
    refine pair_place (by omega) (by simp; omega) fun s7 => ?_
    simp_arith
    refine ⟨done ++ [a], by simp [hd], ?_⟩
    simp
  · rintro _ ⟨done, hd, rfl⟩
    simp at hd
    subst hd
    exact q
theorem pairings_run {n : Nat} (hn : n ≤ 4) : m__law_pairings [.fz (.int n)] = some (.fz (.list ((waysN n n).map encWay)), [.fz (.int n)]) := by
  apply W.eq
  unfold m__law_pairings
  simp_arith
  unfold mb__law_pairings
  simp_arith
  refine gd_of (okR_of (by omega) (by omega)) ?_
  rw [Int.toNat_natCast, rangeD0]
  refine w_forL (fun d : Nat => .int (d : Int)) (fun rest S => ∃ i : Nat, i + rest.length = n ∧ S = [.v (.fz (.int n)), .v (.fz (.list ((waysN n i).map encWay))), .un, .un, .un, .un, .un, .un, .un]) (as := List.range n) ⟨0, by simp, rfl⟩ ?_ ?_
  · rintro a as _ ⟨i, hi, rfl⟩
    rw [List.length_cons] at hi
    have hcnt : (waysN n i).length ≤ 256 := Nat.le_trans (waysN_count n i) (Nat.le_trans (Nat.pow_le_pow_left hn i) (Nat.le_trans (Nat.pow_le_pow_right (by decide) (show i ≤ 4 by omega)) (by decide)))
    unfold fg__law_pairings_3 fb__law_pairings_3
    simp_arith
    refine w_last (fun S1 => S1 = Pw n (.v (.fz (.list ((waysN n i).map encWay)))) (.v (.fz (.int a))) (waysN n (i + 1)) .un .un .un .un .un) ?_ ?_
    · skip
      refine w_forL encWay (fun rest S => ∃ done, done ++ rest = waysN n i ∧ S = Pw n (.v (.fz (.list ((waysN n i).map encWay)))) (.v (.fz (.int a))) (done.flatMap (extW n)) .un .un .un .un .un) (as := waysN n i) ⟨[], rfl, rfl⟩ ?_ ?_
      · rintro y ys _ ⟨done, hd, rfl⟩
        have hy : y ∈ waysN n i := by rw [← hd]; simp
        have hyl := waysN_len hy
        have hdl : done.length ≤ 256 := by have := congrArg List.length hd; simp at this; omega
        unfold fg__law_pairings_2 encWay
        simp_arith
        refine pair_way (by omega) (by omega) ?_ ?_
        · rw [List.length_flatMap]
          have : ∀ l : List (Int × List Nat), (l.map fun x => (extW n x).length).sum ≤ l.length * n := fun l => by
            induction l with
            | nil => simp
            | cons x l ih =>
              have := ext_len n x
              simp only [List.map_cons, List.sum_cons, List.length_cons, Nat.succ_mul]
              omega
          have h1 := this done
          have h2 : done.length * n ≤ 256 * 4 := Nat.mul_le_mul hdl hn
          omega
        · simp_arith
          refine ⟨done ++ [y], by simp [hd], ?_⟩
          simp
      · rintro _ ⟨done, hd, rfl⟩
        simp at hd
        subst hd
        exact ⟨rfl, rfl⟩
    · rintro _ rfl
      simp_arith
      exact ⟨i + 1, by omega, rfl⟩
  · rintro _ ⟨i, hi, rfl⟩
    simp at hi
    subst hi
    simp_arith
end PD
set_option Elab.async false
set_option linter.all false
set_option maxRecDepth 100000
set_option maxHeartbeats 4000000
set_option exponentiation.threshold 5000
namespace PD
open PySem L2 PD.G
theorem lent_run {D M : Nat} {R : Int} (ok : SumOk D M R) {r : Row} {t : List Tms × Tms} (h : RowOk D M R r t) (u : Int) {o : PyData} (ho : seqD (.fz o) = some ((pickN r.1 t.1 u).map encN)) :
    m__law_total [.fz o] = some (.fz (encN (entN r.1 t.1 u)), [.fz o]) := by
  obtain ⟨h1, h2, h3⟩ := pick_bd (ss := r.1) (ns := t.1) u h.nb
  have hl := h.len
  have hf := h.few
  have h1' : Bd D (9 * M) R (pickN r.1 t.1 u).flatten := h1.mono (Nat.mul_le_mul_right _ (by omega)) (Int.le_refl _)
  have h4 := flat_len ok.r0 h3
  have hr := ok.r4
  have h5 : ((pickN r.1 t.1 u).length : Int) * (2 * R + 1) ≤ 9 * 2001 := by
    have a : ((pickN r.1 t.1 u).length : Int) ≤ 9 := by omega
    have b : 2 * R + 1 ≤ 2001 := by omega
    have r0 := ok.r0
    exact Int.mul_le_mul a b (by omega) (by omega)
  exact ltotal_run ok.lm ho h1' (by rw [x_size]; omega)
theorem row_0 {r : Row} : gIx (.fz (encRow r)) (.fz (.int 0)) = some (.fz (.tuple (r.1.map encS))) := rfl
theorem side_0 {s : Side} : gIx (.fz (encS s)) (.fz (.int 0)) = some (.fz (.int s.1)) := rfl
theorem erase_ol2 {A : Type} (l : List A) (g : A → List PyData) : (OV.ol (l.map fun a => OV.ol ((g a).map OV.fz))).erase = .list (l.map fun a => .list (g a)) := by
  rw [x_erase_ol, List.map_map]
  congr 1
  apply List.map_congr_left
  intro a _
  exact er_ol
theorem lmatrix_run {D M : Nat} {R : Int} (ok : SumOk D M R) {n : Nat} (hn : n ≤ 100) {rows : List Row} {tl : Tell} (h : ∀ x ∈ rows.zip tl, RowOk D M R x.1 x.2) (hl : rows.length ≤ 100) :
    m__law_matrix [.fz (encTab n rows), .fz (encTl tl)] = some (.ol (((matN n rows tl).map fun r => PyData.list (r.map encN)).map OV.fz), [.fz (encTab n rows), .fz (encTl tl)]) := by
  apply W.eq
  unfold m__law_matrix
  simp_arith
  unfold mb__law_matrix
  simp_arith [tab_1, show seqD (.fz (encTl tl)) = some (tl.map encTl1) from rfl]
  rw [show zipD (rows.map encRow) (tl.map encTl1) = (rows.zip tl).map fun x => PyData.tuple [encRow x.1, encTl1 x.2] by rw [zipD_eq, List.zip_map, List.map_map]; rfl]
  refine w_forL (fun x : Row × List Tms × Tms => PyData.tuple [encRow x.1, encTl1 x.2]) (fun rest S => ∃ done, done ++ rest = rows.zip tl ∧ S = [.v (.fz (encTab n rows)), .v (.fz (encTl tl)), .v (.ol (((done.map fun x => rowN n x.1 x.2).map fun r => PyData.list (r.map encN)).map OV.fz)), .un, .un, .un, .un, .un, .un, .un, .un]) (as := rows.zip tl) ⟨[], rfl, rfl⟩ ?_ ?_
  · rintro x xs _ ⟨done, hd, rfl⟩
    have hx := h x (by rw [← hd]; simp)
    have hdl : done.length ≤ 100 := by
      have := congrArg List.length hd
      simp at this
      omega
    have hz2 : (x.1.1.zip x.2.1).length ≤ 9 := by rw [List.length_zip]; have := hx.few; omega
    unfold fg__law_matrix_1 encTl1 fb__law_matrix_1
    simp_arith [tab_0]
    refine gd_of (okR_of (by omega) (by omega)) ?_
    rw [Int.toNat_natCast, rangeD0]
    refine w_lcAll (fun u : Nat => .int (u : Int)) (fun u => .ol (((pickN x.1.1 x.2.1 (u : Int)).map encN).map OV.fz)) rfl (fun u _ => ?_) (by rw [x_size]; simp; omega) ?_
    · unfold ce__law_matrix_2
      simp_arith [row_0]
      rw [show zipD (x.1.1.map encS) (x.2.1.map encN) = (x.1.1.zip x.2.1).map fun y => PyData.tuple [encS y.1, encN y.2] by rw [zipD_eq, List.zip_map, List.map_map]; rfl]
      refine w_lcMap' (fun y : Side × Tms => PyData.tuple [encS y.1, encN y.2]) (fun y => decide (y.1.1 = (u : Int))) (fun y => .fz (encN y.2)) rfl (fun y _ => ?_) (by rw [x_size]; omega) ?_
      · simp_arith [side_0]
        refine ⟨fun _ => ?_, fun _ => trivial⟩
        unfold ce__law_matrix_1
        simp_arith
      · refine ⟨?_, rfl⟩
        have hp : (fun y : Side × Tms => decide (y.1.1 = (u : Int))) = fun y => y.1.1 == (u : Int) := by
          funext y
          rfl
        rw [hp]
        unfold pickN
        rw [List.map_map, List.map_map]
        rfl
    simp_arith
    rw [erase_ol2 (List.range n) fun u : Nat => (pickN x.1.1 x.2.1 (u : Int)).map encN]
    simp_arith
    refine w_lcAll (fun u : Nat => .list ((pickN x.1.1 x.2.1 (u : Int)).map encN)) (fun u => .fz (encN (entN x.1.1 x.2.1 (u : Int)))) rfl (fun u _ => ?_) (by rw [x_size]; simp; omega) ?_
    · unfold ce__law_matrix_3
      simp_arith
      refine w_eq (lent_run ok hx (u : Int) (o := .list ((pickN x.1.1 x.2.1 (u : Int)).map encN)) rfl) ?_
      simp_arith
    rw [map_fz' (fun u : Nat => encN (entN x.1.1 x.2.1 (u : Int)))]
    simp_arith
    refine gd_of (by rw [x_size]; simp; omega) ⟨done ++ [x], by simp [hd], ?_⟩
    simp [modS, SV.put, wipeS, rowN]
  · rintro _ ⟨done, hd, rfl⟩
    simp only [List.append_nil] at hd
    subst hd
    simp_arith
    rfl
end PD
set_option Elab.async false
set_option linter.all false
set_option maxRecDepth 100000
set_option maxHeartbeats 4000000
set_option exponentiation.threshold 5000
namespace PD
open PySem L2 PD.G
theorem negN_cn {a : Tms} (h : Cn a) : Cn (negN a) := by
  refine ⟨?_, fun t ht => ?_⟩
  · have : (negN a).map (·.1) = a.map (·.1) := by unfold negN; rw [List.map_map]; rfl
    rw [this]
    exact h.asc
  · obtain ⟨u, hu, rfl⟩ := List.mem_map.1 ht
    have := h.nz u hu
    intro z
    apply this
    have z' : -u.2 = 0 := z
    grind
theorem negN_eq {a : Tms} (h : Cn a) : negN a = mulN a neg1 := by
  refine Cn.ext (negN_cn h) (cano_cn _) fun k => ?_
  rw [negN_val, val_mulN, conv_neg1]
theorem ltotal2_run {D M N : Nat} {R : Int} {a b : Tms} (lm : Lm D (M + N) sizeLine) (ha : NB D M R a) (hb : NB D N R b) (hl : a.length + b.length ≤ sizeLine) :
    m__law_total [.fz (.list [encN a, encN b])] = some (.fz (encN (addN a b)), [.fz (.list [encN a, encN b])]) := by
  have := (ltotal_run lm (ns := [a, b]) (o := .list [encN a, encN b]) rfl (by simpa using ha.bd.append hb.bd) (by simpa using hl))
  simpa [addN] using this
/-- the law's polynomial of a way -/
def polyA (M : List (List Tms)) : List (Nat × Nat) → List Tms → List Tms
  | [], p => p
  | x :: xs, p => polyA M xs (entP p ((M.getD x.2 []).getD x.1 []) (x.1 == x.2))
def polyL (M : List (List Tms)) (x : Int × List Nat) : List Tms := polyA M x.2.zipIdx [[(0, (x.1 : Rat))]]
theorem polyA_val (M : List (List Tms)) : ∀ (xs : List (Nat × Nat)) (p : List Tms), vP (polyA M xs p) = TwA M xs (vP p)
  | [], p => rfl
  | x :: xs, p => by
    simp only [polyA, TwA]
    rw [polyA_val M xs, vP_ent]
theorem polyL_val (M : List (List Tms)) (x : Int × List Nat) : vP (polyL M x) = mulF (x.1 : Rat) (Tw M x.2) := by
  unfold polyL Tw
  rw [polyA_val, ← TwA_mul]
  congr 1
  funext j k
  unfold vP mulF dl
  cases j with
  | zero =>
    by_cases h : k = 0
    · subst h; simp [val]; grind
    · have h' : ¬ 0 = k := fun z => h z.symm
      simp [val, h, h']; grind
  | succ j => simp
theorem polyA_len (M : List (List Tms)) : ∀ (xs : List (Nat × Nat)) (p : List Tms), (polyA M xs p).length = p.length + xs.length
  | [], p => rfl
  | x :: xs, p => by
    simp only [polyA]
    rw [polyA_len M xs, entP_len, List.length_cons]
    omega
def Pb : Nat → Nat
  | 0 => 1
  | i + 1 => Pb i * 65536 + Pb i * 30
structure PbOk (i : Nat) (p : List Tms) : Prop where
  ln : p.length = i + 1
  nb : ∀ a ∈ p, NB (30 ^ i) (Pb i) (200 * i) a
theorem pb_nums (i : Nat) (hi : i ≤ 3) : 30 ^ i < 2 ^ 190 ∧ Pb i < 2 ^ 150 ∧ Pb i * 65536 + Pb i * 30 < 2 ^ 150 := by
  have : i = 0 ∨ i = 1 ∨ i = 2 ∨ i = 3 := by omega
  rcases this with rfl | rfl | rfl | rfl <;> decide
theorem pb_mul {i : Nat} (hi : i ≤ 3) : MulOk (30 ^ i) 30 (Pb i) 65536 (200 * i) 200 := by
  obtain ⟨n1, n2, n3⟩ := pb_nums i hi
  have p200 : (2 : Nat) ^ 190 < 2 ^ 200 := by decide
  have p150 : (2 : Nat) ^ 150 < 2 ^ 200 := by decide
  have hpos : 0 < 30 ^ i := Nat.pow_pos (by decide)
  exact ⟨hpos, by decide, by omega, by decide, by omega, by decide, by omega, by decide, by omega, by decide⟩
theorem pb_step {i : Nat} (hi : i ≤ 3) {p : List Tms} (h : PbOk i p) {b : Tms} (hb : NB 30 65536 200 b) (own : Bool) : PbOk (i + 1) (entP p b own) := by
  obtain ⟨n1, n2, n3⟩ := pb_nums i hi
  have p400 : (2 : Nat) ^ 150 < 2 ^ 400 := by decide
  have := (entry_run (pb_mul hi) (by omega) (by omega) h.nb hb (by rw [h.ln]; omega) own).2
  refine ⟨by rw [entP_len, h.ln], fun a ha => ?_⟩
  refine (this a ha).mono (Nat.le_refl _) ?_
  push_cast
  omega
abbrev Sq (tab tl : PyData) (M : List (List Tms)) (n : Nat) (cols : List (List Tms)) (x : Int × List Nat) (p : List Tms) (s8 s9 s10 s11 s12 s13 s14 s15 : SV) : SS :=
  [.v (.fz tab), .v (.fz tl), .v (.fz (encM M)), .v (.fz (.int n)), .v (.ol (cols.map encPo)), .v (.fz (.int x.1)), .v (.fz (encK x.2)), .v (.fz (encP p)), s8, s9, s10, s11, s12, s13, s14, s15]
theorem encM_ix {M : List (List Tms)} {i : Nat} (h : i < M.length) : gIx (.fz (encM M)) (.fz (.int (i : Int))) = some (.fz (.list ((M.getD i []).map encN))) := by
  unfold encM
  rw [ix_list (by simpa using h)]
  simp [h]
theorem encRow_ix {r : List Tms} {i : Nat} (h : i < r.length) : gIx (.fz (.list (r.map encN))) (.fz (.int (i : Int))) = some (.fz (encN (r.getD i []))) := by
  rw [ix_list (by simpa using h)]
  simp [h]
theorem seq_P (p : List Tms) : seqD (.fz (encP p)) = some (p.map encN) := rfl
theorem zipWith_zip {A B C : Type} (f : A → B → C) : ∀ (a : List A) (b : List B), List.zipWith f a b = (a.zip b).map fun y => f y.1 y.2
  | [], _ => by simp
  | _ :: _, [] => by simp
  | x :: a, y :: b => by simp [zipWith_zip f a b]
theorem encN_nil : PyData.tuple [] = encN [] := rfl
theorem poly_entry {tab tl : PyData} {M : List (List Tms)} {n i c : Nat} (hn : n ≤ 4) (hM : M.length = n) (hi : i < n) (hr : (M.getD i []).length = n) (hc : c < n) (hb : NB 30 65536 200 ((M.getD i []).getD c [])) {cols : List (List Tms)} {x : Int × List Nat} {p : List Tms} (hp : PbOk i p) {s13 : SV} {Q : Fl → SS → Prop}
    (q : ∀ s10 s11 : SV, Q .nx (Sq tab tl M n cols x (entP p ((M.getD i []).getD c []) (c == i)) (.v (.fz (.int i))) (.v (.fz (.int c))) s10 s11 .un .un .un .un)) :
    W (fb__law_poly_1 (Sq tab tl M n cols x p (.v (.fz (.int i))) (.v (.fz (.int c))) .un .un .un s13 .un .un)) Q := by
  unfold fb__law_poly_1
  have hi3 : i ≤ 3 := by omega
  have hl := hp.ln
  obtain ⟨n1, n2, n3⟩ := pb_nums i hi3
  have p400 : (2 : Nat) ^ 150 < 2 ^ 400 := by decide
  have p190 : (2 : Nat) ^ 190 < 2 ^ 200 := by decide
  have p1504 : (2 : Nat) ^ 150 < 2 ^ 200 := by decide
  generalize hB : (M.getD i []).getD c [] = b at *
  refine w_seq (fun S1 => S1 = Sq tab tl M n cols x p (.v (.fz (.int i))) (.v (.fz (.int c))) (.v (.ol (((ledN p b ++ [[]]).map encN).map OV.fz))) .un .un .un .un .un) ?_ ?_
  · simp_arith [seq_P]
    refine w_lcAll1 encN (fun a => .fz (encN (mulN a b))) (by intro z; rw [z] at hl; cases hl) (fun a ha => ?_) (by rw [x_size]; omega) ?_
    · unfold ce__law_poly_2
      simp_arith [encM_ix (show i < M.length by omega), encRow_ix (show c < (M.getD i []).length by omega), hB]
      refine w_eq (lmul_run (pb_mul hi3) (hp.nb a ha) hb) ?_
      simp_arith
    rw [map_fz' (fun a => encN (mulN a b))]
    have e : (OV.ol [OV.fz (.tuple [])]) = .ol ([PyData.tuple []].map OV.fz) := rfl
    simp_arith
    rw [e, v_catL]
    simp_arith
    refine gd_of (by rw [x_size]; simp; omega) ?_
    simp_arith
    simp [ledN, encN_nil]
  rintro _ rfl
  refine w_seq (fun S1 => ∃ s11 : SV, S1 = Sq tab tl M n cols x p (.v (.fz (.int i))) (.v (.fz (.int c))) (.v (.ol (((entP p b (c == i)).map encN).map OV.fz))) s11 .un .un .un .un) ?_ ?_
  · simp_arith
    refine br_dec (fun hic => ?_) fun hic => ?_
    · have hci : (c == i) = true := by simp; omega
      refine w_seq (fun S1 => S1 = Sq tab tl M n cols x p (.v (.fz (.int i))) (.v (.fz (.int c))) (.v (.ol (((ledN p b ++ [[]]).map encN).map OV.fz))) (.v (.fz (.list (([] :: ledN p neg1).map encN)))) .un .un .un .un) ?_ ?_
      · simp_arith [seq_P]
        have e0 : (OV.ol [OV.fz (.tuple [])]).erase = .list [PyData.tuple []] := by simp
        refine w_lcAll encN (fun a => .fz (encN (mulN a neg1))) rfl (fun a ha => ?_) (by rw [x_size]; omega) ?_
        · unfold ce__law_poly_3
          simp_arith
          have hlen := (hp.nb a ha).len (by omega)
          refine w_eq (minus_run (by rw [x_size]; omega)) ?_
          rw [negN_eq (hp.nb a ha).cn]
          simp_arith
        rw [map_fz' (fun a => encN (mulN a neg1))]
        simp_arith [e0, v_catFL]
        refine gd_of (by rw [x_size]; simp; omega) ?_
        simp_arith
        simp [ledN, encN_nil]
      rintro _ rfl
      have hA : ∀ y ∈ (ledN p b ++ [[]]).zip ([] :: ledN p neg1), NB (30 ^ i * 30) (Pb i * 65536) (200 * i + 200) y.1 ∧ NB (30 ^ i * 30) (Pb i * 30) (200 * i + 200) y.2 := by
        intro y hy
        have hneg : NB 1 1 0 neg1 := pm1_nb (.inr rfl) (Int.le_refl _)
        have ok := pb_mul hi3
        have ok1 : MulOk (30 ^ i) 1 (Pb i) 1 (200 * i) 0 := ⟨ok.d0, by decide, ok.d4, by decide, ok.m4, by decide, ok.r0, Int.le_refl _, ok.r4, by decide⟩
        have h1 := List.of_mem_zip hy
        constructor
        · rcases List.mem_append.1 h1.1 with z | z
          · obtain ⟨a, ha, e⟩ := List.mem_map.1 z
            rw [← e]
            exact (mul_run ok (hp.nb a ha) hb).2
          · simp at z; rw [z]; exact NB.nil
        · rcases List.mem_cons.1 h1.2 with z | z
          · rw [z]; exact NB.nil
          · obtain ⟨a, ha, e⟩ := List.mem_map.1 z
            rw [← e]
            have := ((mul_run ok1 (hp.nb a ha) hneg).2.finer (E := 30) (by have := ok.d0; omega) (by decide))
            refine NB.mono (D := 30 ^ i * 30) ?_ (Nat.le_refl _) (show 200 * (i : Int) + 0 ≤ 200 * i + 200 by omega)
            simpa using this
      simp_arith [seqD_l]
      have hz := zip_enc (ledN p b ++ [[]]) ([] :: ledN p neg1)
      rw [List.map_cons] at hz
      rw [hz]
      refine w_lcAll (fun y : Tms × Tms => PyData.tuple [encN y.1, encN y.2]) (fun y => .fz (encN (addN y.1 y.2))) rfl (fun y hy => ?_) (by rw [x_size]; simp [ledN_len]; omega) ?_
      · obtain ⟨b1, b2⟩ := hA y hy
        have l1 := b1.len (by omega)
        have l2 := b2.len (by omega)
        unfold ce__law_poly_4
        simp_arith
        have e2 : (OV.ol [OV.fz (encN y.1), OV.fz (encN y.2)]).erase = .list [encN y.1, encN y.2] := by simp
        simp_arith [e2]
        refine w_eq (ltotal2_run ⟨Nat.mul_pos (Nat.pow_pos (by decide)) (by decide), ?_, ?_, Nat.le_refl _⟩ b1 b2 (by rw [x_size]; omega)) ?_
        · have : 30 ^ i * 30 < 2 ^ 190 * 30 := by omega
          exact Nat.lt_trans this (by decide)
        · omega
        simp_arith
      rw [map_fz' (fun y : Tms × Tms => encN (addN y.1 y.2))]
      simp_arith
      refine ⟨.v (.fz (.list (([] :: ledN p neg1).map encN))), ?_⟩
      have e3 : ((ledN p b ++ [[]]).zip ([] :: ledN p neg1)).map (fun y : Tms × Tms => encN (addN y.1 y.2)) = (entP p b (c == i)).map encN := by
        unfold entP addP
        rw [if_pos hci, zipWith_zip, List.map_map]
        rfl
      rw [e3]
      rfl
    · have hci : (c == i) = false := by simp; omega
      simp_arith
      refine ⟨.un, ?_⟩
      unfold entP
      rw [if_neg (by simp [hci])]
  rintro _ ⟨s11, rfl⟩
  simp_arith
  exact q _ s11
end PD
set_option Elab.async false
set_option linter.all false
set_option maxRecDepth 100000
set_option maxHeartbeats 4000000
set_option exponentiation.threshold 5000
namespace PD
open PySem L2 PD.G
theorem polyA_append (M : List (List Tms)) : ∀ (xs ys : List (Nat × Nat)) (p : List Tms), polyA M (xs ++ ys) p = polyA M ys (polyA M xs p)
  | [], ys, p => rfl
  | x :: xs, ys, p => polyA_append M xs ys _
/-- the matrix of a square table -/
structure MtOk (n : Nat) (M : List (List Tms)) : Prop where
  n4 : n ≤ 4
  ln : M.length = n
  rl : ∀ row ∈ M, row.length = n
  nb : ∀ row ∈ M, ∀ a ∈ row, NB 30 65536 200 a
theorem MtOk.row {n : Nat} {M : List (List Tms)} (h : MtOk n M) {i : Nat} (hi : i < n) : (M.getD i []).length = n := by
  have : i < M.length := by have := h.ln; omega
  have e : M.getD i [] = M[i] := by simp [this]
  rw [e]
  exact h.rl _ (List.getElem_mem this)
theorem MtOk.at {n : Nat} {M : List (List Tms)} (h : MtOk n M) {i c : Nat} (hi : i < n) (hc : c < n) : NB 30 65536 200 ((M.getD i []).getD c []) := by
  have hr := h.row hi
  have : i < M.length := by have := h.ln; omega
  have e : M.getD i [] = M[i] := by simp [this]
  rw [e] at hr ⊢
  have e2 : M[i].getD c [] = M[i][c]'(by omega) := by simp [List.getD, show c < M[i].length by omega]
  rw [e2]
  exact h.nb _ (List.getElem_mem this) _ (List.getElem_mem _)
theorem int_enc (z : Int) : encN [(0, (z : Rat))] = .tuple [.tuple [.int 0, .tuple [.int z, .int 1]]] := by
  simp [encN, encT, encR]
theorem start_pb {x : Int} (hx : x = 1 ∨ x = -1) : PbOk 0 [[(0, (x : Rat))]] := by
  refine ⟨rfl, fun a ha => ?_⟩
  have : a = [(0, (x : Rat))] := by simpa using ha
  rw [this]
  exact pm1_nb hx (by omega)
/-- columns -/
abbrev colF (n : Nat) (f : Nat → List Tms) : List (List Tms) := (List.range (n + 1)).map f
theorem olAt_col {n : Nat} {f : Nat → List Tms} {m : Nat} (h : m < n + 1) : olAt ((colF n f).map encPo) (m : Int) = some (m, ((f m).map encN).map OV.fz) := by
  unfold olAt
  rw [ixN_s (by simpa using h)]
  simp only [Option.bind_some, List.getElem?_map, List.getElem?_range h, Option.map_some]
  rfl
theorem set_col {n : Nat} {f : Nat → List Tms} {m : Nat} (v : List Tms) (h : m < n + 1) : ((colF n f).map encPo).set m (encPo v) = (colF n fun j => if j = m then v else f j).map encPo := by
  apply List.ext_getElem?
  intro j
  rw [List.getElem?_set]
  by_cases hj : m = j
  · subst hj
    simp [h]
  · rw [if_neg hj]
    by_cases hj2 : j < n + 1
    · simp [hj2, Ne.symm hj]
    · simp [hj2]
theorem way_loop {tab tl : PyData} {M : List (List Tms)} {n : Nat} (hM : MtOk n M) {cols : List (List Tms)} {x : Int × List Nat} (hx : x ∈ waysN n n) {s13 : SV} (hz : ∀ u, s13 ≠ .io u) {Q : Fl → SS → Prop} (q : ∀ s13 : SV, (∀ u, s13 ≠ .io u) → PbOk n (polyL M x) → Q .nx (Sq tab tl M n cols x (polyL M x) .un .un .un .un .un s13 .un .un)) :
    W (gFor [8, 9, 10, 11] (iEnum' (eVar 6)) fg__law_poly_1 fb__law_poly_1 (Sq tab tl M n cols x [[(0, (x.1 : Rat))]] .un .un .un .un .un s13 .un .un)) Q := by
  have hxl := waysN_len hx
  simp_arith [seq_K]
  rw [show enumD (x.2.map fun c : Nat => PyData.int (c : Int)) = x.2.zipIdx.map fun y => PyData.tuple [.int (y.2 : Int), .int (y.1 : Int)] by rw [enumD_eq, List.zipIdx_map, List.map_map]; rfl]
  refine w_forL (fun y : Nat × Nat => PyData.tuple [.int (y.2 : Int), .int (y.1 : Int)]) (fun rest S => ∃ done, done ++ rest = x.2.zipIdx ∧ PbOk done.length (polyA M done [[(0, (x.1 : Rat))]]) ∧ ∃ s13 : SV, (∀ u, s13 ≠ .io u) ∧ S = Sq tab tl M n cols x (polyA M done [[(0, (x.1 : Rat))]]) .un .un .un .un .un s13 .un .un) (as := x.2.zipIdx) ⟨[], rfl, start_pb (waysN_pm hx), s13, hz, rfl⟩ ?_ ?_
  · rintro ⟨c, i⟩ rest _ ⟨done, hd, hp, s13, hz, rfl⟩
    have hdl := congrArg List.length hd
    simp at hdl
    have hat : x.2.zipIdx[done.length]? = some (c, i) := by rw [← hd]; simp
    rw [List.getElem?_zipIdx] at hat
    simp only [Option.map_eq_some_iff] at hat
    obtain ⟨c', hc', e⟩ := hat
    simp only [Prod.mk.injEq] at e
    obtain ⟨rfl, hi⟩ := e
    have hi' : i = done.length := by omega
    subst hi'
    have hc := waysN_lt hx c' (List.mem_of_getElem? hc')
    have hin : done.length < n := by omega
    unfold fg__law_poly_1
    simp_arith
    refine poly_entry hM.n4 hM.ln hin (hM.row hin) hc (hM.at hin hc) hp fun s10 s11 => ?_
    simp_arith
    refine ⟨done ++ [(c', done.length)], by simp [hd], ?_, .un, fun u z => (by cases z), ?_⟩
    · rw [polyA_append, List.length_append]
      exact pb_step (by have := hM.n4; omega) hp (hM.at hin hc) _
    · rw [polyA_append]
      rfl
  · rintro _ ⟨done, hd, hp, s13, hz, rfl⟩
    rw [List.append_nil] at hd
    subst hd
    rw [List.length_zipIdx, hxl] at hp
    exact q s13 hz hp
theorem v_slToL {ds : List PyData} {n : Nat} : gSl (.fz (.list ds)) none (some ((n : Int) + 1)) = some (.ol ((ds.take (n + 1)).map OV.fz)) := by
  have := v_slTo (ds := ds) (n := n + 1)
  push_cast at this
  exact this
theorem poly_way {tab tl : PyData} {M : List (List Tms)} {n : Nat} (hM : MtOk n M) {f : Nat → List Tms} (hf : ∀ j, (f j).length ≤ 1000) {x : Int × List Nat} (hx : x ∈ waysN n n) {s13 : SV} (hz : ∀ u, s13 ≠ .io u) {Q : Fl → SS → Prop} (q : ∀ s13 : SV, (∀ u, s13 ≠ .io u) → PbOk n (polyL M x) → Q .nx (Sq tab tl M n (colF n fun j => f j ++ [(polyL M x).getD j []]) x (polyL M x) .un .un .un .un .un s13 .un .un)) :
    W (fb__law_poly_3 [.v (.fz tab), .v (.fz tl), .v (.fz (encM M)), .v (.fz (.int n)), .v (.ol ((colF n f).map encPo)), .v (.fz (.int x.1)), .v (.fz (encK x.2)), .un, .un, .un, .un, .un, .un, s13, .un, .un]) Q := by
  unfold fb__law_poly_3
  refine w_seq (fun S1 => S1 = Sq tab tl M n (colF n f) x [[(0, (x.1 : Rat))]] .un .un .un .un .un s13 .un .un) ?_ ?_
  · simp_arith
    have : (OV.ol [OV.fz (.tuple [.tuple [.int 0, .tuple [.int x.1, .int 1]]])]).erase = encP [[(0, (x.1 : Rat))]] := by
      rw [← int_enc]
      simp [encP]
    rw [this]
  rintro _ rfl
  refine w_seq (fun S1 => PbOk n (polyL M x) ∧ ∃ s13 : SV, (∀ u, s13 ≠ .io u) ∧ S1 = Sq tab tl M n (colF n f) x (polyL M x) .un .un .un .un .un s13 .un .un) ?_ ?_
  · exact way_loop hM hx hz fun s13 hz h => ⟨rfl, h, s13, hz, rfl⟩
  rintro _ ⟨hp, s13, hz, rfl⟩
  have hsl : gSl (.fz (encP (polyL M x))) none (some ((n : Int) + 1)) = _ := v_slToL (ds := (polyL M x).map encN) (n := n)
  simp_arith [hsl]
  rw [← List.map_take, List.take_of_length_le (by rw [hp.ln]; omega)]
  rw [show enumD ((polyL M x).map encN) = (polyL M x).zipIdx.map fun y => PyData.tuple [.int (y.2 : Int), encN y.1] by rw [enumD_eq, List.zipIdx_map, List.map_map]; rfl]
  refine w_forL (fun y : Tms × Nat => PyData.tuple [.int (y.2 : Int), encN y.1]) (fun rest S => ∃ done, done ++ rest = (polyL M x).zipIdx ∧ ∃ s13 : SV, (∀ u, s13 ≠ .io u) ∧ S = Sq tab tl M n (colF n fun j => if j < done.length then f j ++ [(polyL M x).getD j []] else f j) x (polyL M x) .un .un .un .un .un s13 .un .un) (as := (polyL M x).zipIdx) ⟨[], rfl, s13, hz, by simp⟩ ?_ ?_
  · rintro ⟨a, i⟩ rest _ ⟨done, hd, s13, hz, rfl⟩
    have hdl := congrArg List.length hd
    simp [hp.ln] at hdl
    have hat : (polyL M x).zipIdx[done.length]? = some (a, i) := by rw [← hd]; simp
    rw [List.getElem?_zipIdx] at hat
    simp only [Option.map_eq_some_iff] at hat
    obtain ⟨a', ha', e⟩ := hat
    simp only [Prod.mk.injEq] at e
    obtain ⟨rfl, hi⟩ := e
    have hi' : i = done.length := by omega
    subst hi'
    have hg : (polyL M x).getD done.length [] = a' := by simp [List.getD, ha']
    have hput : ∀ S : SS, putS 0 (.fz (encN a')) (s13 :: S) = some (.v (.fz (encN a')) :: S) := fun S => by
      cases s13 with
      | io u => exact absurd rfl (hz u)
      | _ => rfl
    unfold fg__law_poly_2 fb__law_poly_2
    simp_arith [hput, olAt_col (f := fun j => if j < done.length then f j ++ [(polyL M x).getD j []] else f j) (show done.length < n + 1 by omega)]
    refine gd_of (by rw [x_size]; have := hf done.length; simp; omega) ⟨done ++ [(a', done.length)], by simp [hd], .v (.fz (encN a')), fun u z => (by cases z), ?_⟩
    have e1 : OV.ol (((if done.length < done.length then f done.length ++ [(polyL M x).getD done.length []] else f done.length).map encN).map OV.fz ++ [OV.fz (encN a')]) = encPo (f done.length ++ [a']) := by
      simp [encPo]
    have e2 := set_col (n := n) (f := fun j => if j < done.length then f j ++ [(polyL M x).getD j []] else f j) (f done.length ++ [a']) (show done.length < n + 1 by omega)
    rw [e1, e2]
    have e3 : (fun j => if j = done.length then f done.length ++ [a'] else if j < done.length then f j ++ [(polyL M x).getD j []] else f j) = fun j => if j < (done ++ [(a', done.length)]).length then f j ++ [(polyL M x).getD j []] else f j := by
      funext j
      rw [List.length_append, List.length_singleton]
      by_cases h1 : j = done.length
      · subst h1
        rw [if_pos rfl, if_pos (by omega), hg]
      · rw [if_neg h1]
        by_cases h2 : j < done.length
        · rw [if_pos h2, if_pos (by omega)]
        · rw [if_neg h2, if_neg (by omega)]
    rw [e3]
    generalize (colF n fun j => if j < (done ++ [(a', done.length)]).length then f j ++ [(polyL M x).getD j []] else f j) = C
    simp [modS, SV.put]
  · rintro _ ⟨done, hd, s13, hz, rfl⟩
    rw [List.append_nil] at hd
    subst hd
    have e : colF n (fun j => if j < (polyL M x).zipIdx.length then f j ++ [(polyL M x).getD j []] else f j) = colF n fun j => f j ++ [(polyL M x).getD j []] := by
      apply List.map_congr_left
      intro j hj
      have := List.mem_range.1 hj
      rw [if_pos (by rw [List.length_zipIdx, hp.ln]; exact this)]
    rw [e]
    exact q s13 hz hp
end PD
set_option Elab.async false
set_option linter.all false
set_option maxRecDepth 100000
set_option maxHeartbeats 4000000
set_option exponentiation.threshold 5000
namespace PD
open PySem L2 PD.G
theorem SqOk.mt {n : Nat} {rows : List Row} {tl : Tell} (h : SqOk n rows tl) : MtOk n (matN n rows tl) :=
  ⟨h.n4, matN_len h, fun row hr => (mat_nb sumOk h.ok row hr).1, fun row hr a ha => (matN_nb h row hr).2 a ha⟩
/-- what the law finds due -/
def colN (M : List (List Tms)) (ws : List (Int × List Nat)) (j : Nat) : List Tms := ws.map fun x => (polyL M x).getD j []
def dueN (M : List (List Tms)) (n : Nat) : List Tms := (List.range (n + 1)).map fun j => cano (colN M (waysN n n) j).flatten
theorem colN_snoc (M : List (List Tms)) (ws : List (Int × List Nat)) (x : Int × List Nat) (j : Nat) : colN M (ws ++ [x]) j = colN M ws j ++ [(polyL M x).getD j []] := by
  simp [colN]
theorem flat_bd {D M : Nat} {R : Int} : ∀ {ns : List Tms}, (∀ a ∈ ns, NB D M R a) → Bd D (ns.length * M) R ns.flatten
  | [], _ => Bd.nil
  | n :: ns, h => by
    rw [List.flatten_cons, List.length_cons, Nat.succ_mul, Nat.add_comm]
    exact (h n List.mem_cons_self).bd.append (flat_bd fun a ha => h a (List.mem_cons_of_mem _ ha))
theorem pb4 {n : Nat} (hn : n ≤ 4) : 0 < 30 ^ n ∧ 30 ^ n < 2 ^ 400 ∧ 256 * Pb n < 2 ^ 400 := by
  have : n = 0 ∨ n = 1 ∨ n = 2 ∨ n = 3 ∨ n = 4 := by omega
  rcases this with rfl | rfl | rfl | rfl | rfl <;> decide
theorem ways_256 {n i : Nat} (hn : n ≤ 4) (hi : i ≤ 4) : (waysN n i).length ≤ 256 := Nat.le_trans (waysN_count n i) (Nat.le_trans (Nat.pow_le_pow_left hn i) (Nat.le_trans (Nat.pow_le_pow_right (by decide) hi) (by decide)))
theorem col_total {M : List (List Tms)} {n : Nat} (hn : n ≤ 4) (hp : ∀ x ∈ waysN n n, PbOk n (polyL M x)) (j : Nat) :
    m__law_total [.fz (.list ((colN M (waysN n n) j).map encN))] = some (.fz (encN (cano (colN M (waysN n n) j).flatten)), [.fz (.list ((colN M (waysN n n) j).map encN))]) ∧
      (∀ a ∈ colN M (waysN n n) j, NB (30 ^ n) (Pb n) (200 * n) a) ∧ (colN M (waysN n n) j).length ≤ 256 := by
  have hnb : ∀ a ∈ colN M (waysN n n) j, NB (30 ^ n) (Pb n) (200 * n) a := by
    intro a ha
    obtain ⟨x, hx, e⟩ := List.mem_map.1 ha
    rw [← e]
    have h := hp x hx
    by_cases hj : j < (polyL M x).length
    · have : (polyL M x).getD j [] = (polyL M x)[j] := by simp [hj]
      rw [this]
      exact h.nb _ (List.getElem_mem hj)
    · have : (polyL M x).getD j [] = [] := by simp [List.getD, hj]
      rw [this]
      exact NB.nil
  have hl : (colN M (waysN n n) j).length ≤ 256 := by
    unfold colN
    rw [List.length_map]
    exact ways_256 hn hn
  obtain ⟨p1, p2, p3⟩ := pb4 hn
  refine ⟨?_, hnb, hl⟩
  have hfl := flat_len (by omega) hnb
  have h2 : ((colN M (waysN n n) j).length : Int) * (2 * (200 * n) + 1) ≤ 256 * 1601 := Int.mul_le_mul (by omega) (by omega) (by omega) (by omega)
  exact ltotal_run (L := sizeLine) (D := 30 ^ n) (M := 256 * Pb n) (R := 200 * n) ⟨p1, p2, p3, Nat.le_refl _⟩ rfl ((flat_bd hnb).mono (Nat.mul_le_mul_right _ hl) (Int.le_refl _)) (by rw [x_size]; omega)
theorem mat_seq {M : List (List Tms)} : (OV.ol ((M.map fun r => PyData.list (r.map encN)).map OV.fz)).erase = encM M := er_ol
theorem lpoly_run {n : Nat} {rows : List Row} {tl : Tell} (h : SqOk n rows tl) :
    m__law_poly [.fz (encTab n rows), .fz (encTl tl)] = some (encPo (dueN (matN n rows tl) n), [.fz (encTab n rows), .fz (encTl tl)]) := by
  have hM := h.mt
  have hn := h.n4
  apply W.eq
  unfold m__law_poly
  simp_arith
  unfold mb__law_poly
  have hmat := lmatrix_run sumOk (n := n) (by omega) h.ok (by rw [h.sq]; omega)
  generalize matN n rows tl = M at *
  refine w_seq (fun S1 => S1 = [.v (.fz (encTab n rows)), .v (.fz (encTl tl)), .v (.fz (encM M)), .v (.fz (.int n)), .un, .un, .un, .un, .un, .un, .un, .un, .un, .un, .un, .un]) ?_ ?_
  · simp_arith
    refine w_eq hmat ?_
    simp_arith [tab_0]
    rfl
  rintro _ rfl
  refine w_seq (fun S1 => S1 = [.v (.fz (encTab n rows)), .v (.fz (encTl tl)), .v (.fz (encM M)), .v (.fz (.int n)), .v (.ol ((colF n fun _ => []).map encPo)), .un, .un, .un, .un, .un, .un, .un, .un, .un, .un, .un]) ?_ ?_
  · simp_arith
    refine gd_of (okR_of (by omega) (by omega)) ?_
    rw [show ((n : Int) + 1).toNat = n + 1 by omega, rangeD0]
    refine w_lcAll (fun d : Nat => .int (d : Int)) (fun _ => encPo []) rfl (fun d _ => ?_) (by rw [x_size]; simp; omega) ?_
    · unfold ce__law_poly_1
      simp_arith
      rfl
    simp_arith
    simp
  rintro _ rfl
  refine w_seq (fun S1 => (∀ x ∈ waysN n n, PbOk n (polyL M x)) ∧ ∃ s13 : SV, S1 = [.v (.fz (encTab n rows)), .v (.fz (encTl tl)), .v (.fz (encM M)), .v (.fz (.int n)), .v (.ol ((colF n (colN M (waysN n n))).map encPo)), .un, .un, .un, .un, .un, .un, .un, .un, s13, .un, .un]) ?_ ?_
  · simp_arith
    refine w_eq (pairings_run hn) ?_
    simp_arith
    refine w_forL encWay (fun rest S => ∃ done, done ++ rest = waysN n n ∧ (∀ x ∈ done, PbOk n (polyL M x)) ∧ ∃ s13 : SV, (∀ u, s13 ≠ .io u) ∧ S = [.v (.fz (encTab n rows)), .v (.fz (encTl tl)), .v (.fz (encM M)), .v (.fz (.int n)), .v (.ol ((colF n (colN M done)).map encPo)), .un, .un, .un, .un, .un, .un, .un, .un, s13, .un, .un]) (as := waysN n n) ⟨[], rfl, fun _ h => (nomatch h), .un, fun u z => (by cases z), rfl⟩ ?_ ?_
    · rintro x xs _ ⟨done, hd, hdn, s13, hz, rfl⟩
      have hx : x ∈ waysN n n := by rw [← hd]; simp
      have hdl : done.length ≤ 256 := by
        have := congrArg List.length hd
        have h2 := ways_256 hn hn
        simp at this
        omega
      unfold fg__law_poly_3 encWay
      simp_arith
      refine poly_way hM (f := colN M done) (fun j => by simp [colN]; omega) hx hz fun s13 hz hp => ?_
      simp_arith
      refine ⟨done ++ [x], by simp [hd], fun y hy => ?_, s13, hz, ?_⟩
      · rcases List.mem_append.1 hy with z | z
        · exact hdn y z
        · simp at z; rw [z]; exact hp
      · have : (fun j => colN M done j ++ [(polyL M x).getD j []]) = colN M (done ++ [x]) := by
          funext j
          rw [colN_snoc]
        rw [this]
    · rintro _ ⟨done, hd, hdn, s13, hz, rfl⟩
      rw [List.append_nil] at hd
      subst hd
      exact ⟨rfl, hdn, s13, rfl⟩
  rintro _ ⟨hp, s13, rfl⟩
  simp_arith
  have her : (OV.ol ((colF n (colN M (waysN n n))).map encPo)).erase = .list ((List.range (n + 1)).map fun j => .list ((colN M (waysN n n) j).map encN)) := by
    rw [x_erase_ol]
    unfold colF
    rw [List.map_map, List.map_map]
    congr 1
    apply List.map_congr_left
    intro j _
    exact erase_encPo _
  simp_arith [her]
  refine w_lcAll (fun j : Nat => .list ((colN M (waysN n n) j).map encN)) (fun j => .fz (encN (cano (colN M (waysN n n) j).flatten))) rfl (fun j _ => ?_) (by rw [x_size]; simp; omega) ?_
  · unfold ce__law_poly_5
    simp_arith
    refine w_eq (col_total hn hp j).1 ?_
    simp_arith
  simp_arith
  unfold encPo dueN
  rw [List.map_map, List.map_map]
  rfl
/-- it is what polynomial_of gives -/
theorem due_eq {n : Nat} {rows : List Row} {tl : Tell} (h : SqOk n rows tl) : getP (List.range n) (polyD (matN n rows tl)) = some (dueN (matN n rows tl) n) := by
  have hM := h.mt
  obtain ⟨q, e, ql, qs⟩ := poly_sum h.n4 hM.ln hM.rl
  obtain ⟨_, hok⟩ := rows_run (a0 := .un) (a1 := .un) (matN n rows tl) 0 [([], [[(0, (1 : Rat))]])] (by rw [hM.ln]; have := h.n4; omega) start_ok fun row hr => ⟨by rw [hM.rl row hr]; exact h.n4, hM.nb row hr⟩
  have hcn : ∀ a ∈ q, Cn a := fun a ha => ((hok.tb.hL _ (getP_mem e)).2 a ha).cn
  rw [e]
  congr 1
  apply List.ext_getElem
  · rw [ql]; simp [dueN]
  · intro j h1 h2
    have hj : j < n + 1 := by omega
    have e2 : (dueN (matN n rows tl) n)[j] = cano (colN (matN n rows tl) (waysN n n) j).flatten := by simp [dueN]
    rw [e2]
    refine Cn.ext (hcn _ (List.getElem_mem h1)) (cano_cn _) fun k => ?_
    rw [cano_val]
    have e3 : val q[j] k = vP q j k := by simp [vP, h1]
    have e4 : ∀ ws : List (Int × List Nat), val (colN (matN n rows tl) ws j).flatten k = sm ws fun x => vP (polyL (matN n rows tl) x) j k := fun ws => by
      induction ws with
      | nil => rfl
      | cons x ws ih =>
        show val ((polyL _ x).getD j [] ++ (colN _ ws j).flatten) k = vP _ j k + sm ws _
        rw [val_append, ih]
        rfl
    rw [e3, qs, e4]
    refine sm_congr fun x _ => ?_
    rw [polyL_val]
    rfl
end PD
set_option Elab.async false
set_option linter.all false
set_option maxRecDepth 100000
set_option maxHeartbeats 4000000
/-! PDShow: data that can be compared and shown. -/
namespace PD
open PySem L2
/-! ### texts -/
def okT (x : Str) : Prop := ∀ c ∈ x.cps.toList, c < 0x110000
theorem okT_app {a b : Str} (ha : okT a) (hb : okT b) : okT (a ++ b) := fun c hc => by
  rw [PySem.Str.cps_append, Array.toList_append, List.mem_append] at hc
  exact hc.elim (ha c) (hb c)
theorem okT_of (s : String) : okT (Str.ofString s) := fun c hc => by
  rw [PyProof.Rows.signs_ofString] at hc
  obtain ⟨ch, _, rfl⟩ := List.mem_map.1 hc
  have h : ch.val.toNat < 0xd800 ∨ (0xdfff < ch.val.toNat ∧ ch.val.toNat < 0x110000) := ch.valid
  show ch.val.toNat < 0x110000
  omega
theorem okT_join : ∀ ts : List Str, (∀ t ∈ ts, okT t) → okT (Str.join ", " ts)
  | [], _ => fun c hc => by simp [Str.join, Str.empty] at hc
  | [x], h => h x (by simp)
  | x :: y :: r, h => by
    show okT (x ++ ", " ++ Str.join ", " (y :: r))
    exact okT_app (okT_app (h x (by simp)) (okT_of ", ")) (okT_join (y :: r) fun t ht => h t (List.mem_cons_of_mem _ ht))
theorem okT_list (ts : List Str) (h : ∀ t ∈ ts, okT t) : okT (listText ts) := by
  rw [listText_eq_join]
  exact okT_app (okT_app (okT_of _) (okT_join ts h)) (okT_of _)
theorem okT_tuple (ts : List Str) (h : ∀ t ∈ ts, okT t) : okT (tupleText ts) := by
  unfold tupleText
  exact okT_app (okT_app (okT_of _) (okT_join ts h)) (okT_of _)
theorem strOk_of {x : Str} (h : okT x) : PyData.strOk x = true := by
  unfold PyData.strOk
  rw [Array.all_eq_true_iff_forall_mem]
  intro c hc
  have := h c (Array.mem_toList_iff.2 hc)
  simpa using this
/-! ### data within bounds: at most h deep, at most m long -/
structure Shw (h m : Nat) (d : PyData) : Prop where
  sh : d.showable = true
  cl : d.canLay0 = true
  dp : d.depth ≤ h
  ln : d.shown.length ≤ m
  tx : okT d.shown
theorem Shw.mono {h h' m m' : Nat} {d : PyData} (s : Shw h m d) (hh : h ≤ h') (hm : m ≤ m') : Shw h' m' d := ⟨s.sh, s.cl, Nat.le_trans s.dp hh, Nat.le_trans s.ln hm, s.tx⟩
theorem Shw.none : Shw 0 4 .none := ⟨rfl, rfl, by simp [PyData.depth], by decide, okT_of "None"⟩
theorem Shw.bool (b : Bool) : Shw 0 5 (.bool b) := ⟨rfl, rfl, by simp [PyData.depth], by cases b <;> decide, by cases b; exact okT_of "False"; exact okT_of "True"⟩
theorem Shw.int {k : Nat} (hk : 0 < k) (hk2 : k ≤ 1900) {i : Int} (h : i.natAbs < 2 ^ k) : Shw 0 (k + 1) (.int i) := by
  have hl : i.natAbs.log2 < k := by
    by_cases h0 : i.natAbs = 0
    · rw [h0]; simpa using hk
    · exact (Nat.log2_lt h0).2 h
  refine ⟨by simp [PyData.showable]; omega, rfl, by simp [PyData.depth], ?_, okT_of _⟩
  show (Str.ofString (toString i)).length ≤ k + 1
  rw [ofString_length]
  exact int_text_length_le hk hl
theorem shownAll_map : ∀ ds : List PyData, PyData.shownAll ds = ds.map PyData.shown
  | [] => by simp [PyData.shownAll]
  | d :: ds => by simp [PyData.shownAll, shownAll_map ds]
theorem showableAll_of : ∀ {ds : List PyData}, (∀ d ∈ ds, d.showable = true) → PyData.showableAll ds = true
  | [], _ => by simp [PyData.showableAll]
  | d :: ds, h => by
    simp only [PyData.showableAll, Bool.and_eq_true]
    exact ⟨h d List.mem_cons_self, showableAll_of fun x hx => h x (List.mem_cons_of_mem _ hx)⟩
theorem canLayAll_of : ∀ {ds : List PyData}, (∀ d ∈ ds, d.canLay0 = true) → PyData.canLayAll0 ds = true
  | [], _ => by simp [PyData.canLayAll0]
  | d :: ds, h => by
    simp only [PyData.canLayAll0, Bool.and_eq_true]
    exact ⟨h d List.mem_cons_self, canLayAll_of fun x hx => h x (List.mem_cons_of_mem _ hx)⟩
theorem depthAll_of {h : Nat} : ∀ {ds : List PyData}, (∀ d ∈ ds, d.depth ≤ h) → PyData.depthAll ds ≤ h
  | [], _ => by simp [PyData.depthAll]
  | d :: ds, hd => by
    simp only [PyData.depthAll]
    have := hd d List.mem_cons_self
    have := depthAll_of fun x hx => hd x (List.mem_cons_of_mem _ hx)
    omega
theorem sum_le {m : Nat} : ∀ {ds : List PyData}, (∀ d ∈ ds, d.shown.length ≤ m) → (((ds.map PyData.shown).map (·.length)).sum) ≤ ds.length * m
  | [], _ => by simp
  | d :: ds, h => by
    have h1 := h d List.mem_cons_self
    have h2 := sum_le fun x hx => h x (List.mem_cons_of_mem _ hx)
    simp only [List.map_cons, List.sum_cons, List.length_cons, Nat.succ_mul]
    omega
theorem Shw.list {h m : Nat} {ds : List PyData} (hs : ∀ d ∈ ds, Shw h m d) : Shw (h + 1) (ds.length * (m + 2) + 3) (.list ds) := by
  refine ⟨?_, ?_, ?_, ?_, ?_⟩
  · simp only [PyData.showable]; exact showableAll_of fun d hd => (hs d hd).sh
  · simp only [PyData.canLay0]; exact canLayAll_of fun d hd => (hs d hd).cl
  · simp only [PyData.depth]; have := depthAll_of fun d hd => (hs d hd).dp; omega
  · simp only [PyData.shown]
    rw [shownAll_map]
    have h1 := listText_len_le (ds.map PyData.shown)
    have h2 := sum_le fun d hd => (hs d hd).ln
    rw [List.length_map] at h1
    rw [Nat.mul_add]
    omega
  · simp only [PyData.shown]
    rw [shownAll_map]
    refine okT_list _ fun t ht => ?_
    obtain ⟨d, hd, rfl⟩ := List.mem_map.1 ht
    exact (hs d hd).tx
theorem Shw.tuple {h m : Nat} {ds : List PyData} (hs : ∀ d ∈ ds, Shw h m d) : Shw (h + 1) (ds.length * (m + 2) + 3) (.tuple ds) := by
  refine ⟨?_, ?_, ?_, ?_, ?_⟩
  · simp only [PyData.showable]; exact showableAll_of fun d hd => (hs d hd).sh
  · simp only [PyData.canLay0]; exact canLayAll_of fun d hd => (hs d hd).cl
  · simp only [PyData.depth]; have := depthAll_of fun d hd => (hs d hd).dp; omega
  · simp only [PyData.shown]
    rw [shownAll_map]
    have h1 := tupleText_len_le (ds.map PyData.shown)
    have h2 := sum_le fun d hd => (hs d hd).ln
    rw [List.length_map] at h1
    rw [Nat.mul_add]
    omega
  · simp only [PyData.shown]
    rw [shownAll_map]
    refine okT_tuple _ fun t ht => ?_
    obtain ⟨d, hd, rfl⟩ := List.mem_map.1 ht
    exact (hs d hd).tx
theorem Shw.list' {h m : Nat} {ds : List PyData} (n : Nat) (hn : ds.length ≤ n) (hs : ∀ d ∈ ds, Shw h m d) : Shw (h + 1) (n * (m + 2) + 3) (.list ds) :=
  (Shw.list hs).mono (Nat.le_refl _) (Nat.add_le_add_right (Nat.mul_le_mul_right _ hn) _)
theorem Shw.tuple' {h m : Nat} {ds : List PyData} (n : Nat) (hn : ds.length ≤ n) (hs : ∀ d ∈ ds, Shw h m d) : Shw (h + 1) (n * (m + 2) + 3) (.tuple ds) :=
  (Shw.tuple hs).mono (Nat.le_refl _) (Nat.add_le_add_right (Nat.mul_le_mul_right _ hn) _)
theorem Shw.pair {h m : Nat} {a b : PyData} (ha : Shw h m a) (hb : Shw h m b) : Shw (h + 1) (2 * (m + 2) + 3) (.tuple [a, b]) := by
  refine Shw.tuple' 2 (by simp) fun d hd => ?_
  simp only [List.mem_cons, List.not_mem_nil, or_false] at hd
  rcases hd with rfl | rfl
  · exact ha
  · exact hb
theorem Shw.shaped {h m : Nat} {d : PyData} (s : Shw h m d) (hh : h ≤ 64) : SeqAt.shaped d = true := by
  unfold SeqAt.shaped
  rw [s.cl, decide_eq_true (Nat.le_trans s.dp hh)]
  rfl
theorem Shw.repr {h m : Nat} {d : PyData} (s : Shw h m d) (hh : h ≤ 64) (hm : m ≤ sizeLine) : okRepr d = true := by
  unfold okRepr
  rw [s.sh, s.cl, decide_eq_true (Nat.le_trans s.dp hh), decide_eq_true (Nat.le_trans s.ln hm)]
  rfl
theorem Shw.gRepr {h m : Nat} {d : PyData} (s : Shw h m d) (hh : h ≤ 64) (hm : m ≤ sizeLine) : g1 gRepr [.fz d] = some (.fz (.str d.shown)) := by
  have er : ∀ x : PyData, (OV.fz x).erase = x := fun _ => er_fz
  show PD.gRepr (OV.fz d) = _
  unfold PD.gRepr
  rw [er, s.repr hh hm]
  rfl
theorem Shw.strShaped {h m : Nat} {d : PyData} (s : Shw h m d) : SeqAt.shaped (.str d.shown) = true := by
  unfold SeqAt.shaped
  rw [show (PyData.str d.shown).canLay0 = true from strOk_of s.tx]
  rfl
theorem eqv_str (x : Str) : PyData.eqv (.str x) (.str x) = true := by simp [PyData.eqv]
theorem Shw.eqRepr {h m : Nat} {d : PyData} (s : Shw h m d) : gEq (.fz (.str d.shown)) (.fz (.str d.shown)) = some (.fz (.bool true)) := by
  unfold gEq
  rw [er_fz, s.strShaped, eqv_str]
  rfl
theorem Shw.neRepr {h m : Nat} {d : PyData} (s : Shw h m d) : gNe (.fz (.str d.shown)) (.fz (.str d.shown)) = some (.fz (.bool false)) := by
  unfold gNe
  rw [er_fz, s.strShaped, eqv_str]
  rfl
theorem Shw.eqSelf {h m : Nat} {d : PyData} (s : Shw h m d) (hh : h ≤ 64) : gEq (.fz d) (.fz d) = some (.fz (.bool true)) := by
  unfold gEq
  rw [er_fz, s.shaped hh, PySem.SeqAt.eqv_refl d s.cl]
  rfl
end PD
set_option Elab.async false
set_option linter.all false
set_option maxRecDepth 100000
set_option maxHeartbeats 4000000
set_option exponentiation.threshold 5000
namespace PD
open PySem L2 PD.G
open PySem.W (dataLt minD alike)
def encH (y : Int × Nat) : PyData := .tuple [.int y.1, .int (y.2 : Int)]
def pickH (a y : Int × Nat) : Int × Nat := if y.1 < a.1 then y else a
/-- the heights of the numbers that are not 0 -/
def hts (num den : Int) (xs : List (Tms × Nat)) : List (Int × Nat) := (xs.filter fun x => !x.1.isEmpty).map fun x => ((x.1.headD (0, 0)).1 * den + x.2 * num, x.2)
theorem minD_pick : ∀ (ys : List (Int × Nat)) (a : Int × Nat), ys.Pairwise (fun x y => x.2 < y.2) → (∀ y ∈ ys, a.2 < y.2) → minD (encH a) (ys.map encH) = encH (ys.foldl pickH a)
  | [], a, _, _ => rfl
  | y :: ys, a, h, h2 => by
    rw [List.pairwise_cons] at h
    have e : (if dataLt (encH y) (encH a) then encH y else encH a) = encH (pickH a y) := by
      unfold encH pickH
      rw [PySem.W.dataLt_ii]
      have := h2 y List.mem_cons_self
      by_cases hy : y.1 < a.1
      · simp [hy]
      · have : ¬ (y.1 < a.1 ∨ y.1 = a.1 ∧ (y.2 : Int) < (a.2 : Int)) := by omega
        rw [decide_eq_false this]
        simp [hy]
    have ih := minD_pick ys (pickH a y) h.2 fun z hz => by
      unfold pickH
      split
      · exact h.1 z hz
      · exact h2 z (List.mem_cons_of_mem _ hz)
    unfold minD at ih ⊢
    rw [List.map_cons, List.foldl_cons, List.foldl_cons, e]
    exact ih
theorem hts_asc (num den : Int) {xs : List (Tms × Nat)} (h : xs.Pairwise fun x y => x.2 < y.2) : (hts num den xs).Pairwise fun x y => x.2 < y.2 := by
  unfold hts
  rw [List.pairwise_map]
  exact (h.filter _).imp fun h => h
theorem zipIdx_asc (p : List Tms) : ∀ k, (p.zipIdx k).Pairwise fun x y => x.2 < y.2 := by
  induction p with
  | nil => intro k; simp
  | cons a p ih =>
    intro k
    rw [List.zipIdx_cons, List.pairwise_cons]
    refine ⟨fun y hy => ?_, ih (k + 1)⟩
    have := List.le_snd_of_mem_zipIdx hy
    show k < y.2
    omega
theorem okMin_hts : ∀ ys : List (Int × Nat), okMin (ys.map encH) = true := by
  intro ys
  have hd : ∀ ys : List (Int × Nat), PyData.depthAll (ys.map encH) ≤ 64 := fun ys => by
    induction ys with
    | nil => simp [PyData.depthAll]
    | cons y ys ih =>
      simp only [List.map_cons, PyData.depthAll]
      have : PyData.depth (encH y) ≤ 64 := by simp [encH, PyData.depth, PyData.depthAll]
      omega
  unfold okMin
  simp only [Bool.and_eq_true, List.all_eq_true, decide_eq_true_eq, List.mem_map]
  refine ⟨?_, ?_, hd ys⟩
  · rintro _ ⟨y, _, rfl⟩
    simp [encH, PyData.canLay0, PyData.canLayAll0, PyData.depth, notNon]
  · rintro _ ⟨y, _, rfl⟩ _ ⟨z, _, rfl⟩
    simp [encH, alike, PySem.W.alikeAll]
theorem encH_1 {y : Int × Nat} : gIx (.fz (encH y)) (.fz (.int 1)) = some (.fz (.int y.2)) := ix_t1
theorem encR_0 {q : Rat} : gIx (.fz (encR q)) (.fz (.int 0)) = some (.fz (.int q.num)) := ix_t0
theorem encR_1 {q : Rat} : gIx (.fz (encR q)) (.fz (.int 1)) = some (.fz (.int q.den)) := ix_t1
/-- numbers within what can be shown -/
structure ShN (a : Tms) : Prop where
  ln : a.length ≤ 2000
  sm : ∀ t ∈ a, t.1.natAbs < 2 ^ 12 ∧ t.2.num.natAbs < 2 ^ 100 ∧ t.2.den < 2 ^ 100
theorem ShN.shw {a : Tms} (h : ShN a) : Shw 3 900000 (encN a) := by
  refine (Shw.tuple' (h := 2) (m := 425) 2000 (by simpa using h.ln) fun d hd => ?_).mono (Nat.le_refl _) (by decide)
  obtain ⟨t, ht, rfl⟩ := List.mem_map.1 hd
  obtain ⟨h1, h2, h3⟩ := h.sm t ht
  have s1 : Shw 1 209 (.int t.1) := (Shw.int (k := 12) (by decide) (by decide) h1).mono (by decide) (by decide)
  have s2 : Shw 0 101 (.int t.2.num) := Shw.int (k := 100) (by decide) (by decide) h2
  have s3 : Shw 0 101 (.int t.2.den) := Shw.int (k := 100) (by decide) (by decide) (by simpa using h3)
  exact Shw.pair s1 (Shw.pair s2 s3)
/-- numbers of which heights are taken -/
structure HtOk (p : List Tms) : Prop where
  few : p.length ≤ 100
  rg : ∀ a ∈ p, ∀ t ∈ a, -2000 ≤ t.1 ∧ t.1 ≤ 2000
  sh : ∀ a ∈ p, ShN a
theorem mul_sm {i j : Int} (h1 : i.natAbs ≤ 10000) (h2 : j.natAbs ≤ 10000) : okMul i j = true := by
  have : (10000 : Nat) < 2 ^ 1000 := Nat.lt_of_lt_of_le (by decide : 10000 < 2 ^ 14) (Nat.pow_le_pow_right (by decide) (by decide))
  exact okMul_small (by omega) (by omega)
theorem seq_N (a : Tms) : seqD (.fz (encN a)) = some (a.map encT) := rfl
theorem eqv_nil {a : Tms} (h : ShN a) : gNe (.fz (encN a)) (.fz (.tuple [])) = some (.fz (.bool (!a.isEmpty))) := by
  have h2 : Shw 1 3 (.tuple []) := by simpa using Shw.tuple (h := 0) (m := 0) (ds := []) fun _ h => nomatch h
  unfold gNe
  have e1 : (OV.fz (encN a)).erase = encN a := er_fz
  have e2 : (OV.fz (.tuple [])).erase = .tuple [] := er_fz
  rw [e1, e2, h.shw.shaped (by decide), h2.shaped (by decide)]
  cases a with
  | nil => simp [encN]
  | cons t a => simp [encN]
theorem lroots_run {p : List Tms} (hp : HtOk p) {num den : Int} (h1 : num.natAbs ≤ 100) (h2 : den.natAbs ≤ 100) {y : Int × Nat} {ys : List (Int × Nat)} (hy : hts num den p.zipIdx = y :: ys) :
    m__law_roots_above [.fz (encP p), .fz (.int num), .fz (.int den)] = some (.fz (.int (ys.foldl pickH y).2), [.fz (encP p), .fz (.int num), .fz (.int den)]) := by
  apply W.eq
  unfold m__law_roots_above
  simp_arith
  unfold mb__law_roots_above
  simp_arith [seq_P]
  have hf := hp.few
  rw [show enumD (p.map encN) = p.zipIdx.map fun x => PyData.tuple [.int (x.2 : Int), encN x.1] by rw [enumD_eq, List.zipIdx_map, List.map_map]; rfl]
  refine w_lcMap' (fun x : Tms × Nat => PyData.tuple [.int (x.2 : Int), encN x.1]) (fun x => !x.1.isEmpty) (fun x => .fz (encH ((x.1.headD (0, 0)).1 * den + x.2 * num, x.2))) rfl (fun x hx => ?_) (by rw [x_size]; simp; omega) ?_
  · have hx2 := List.snd_lt_of_mem_zipIdx hx
    have hx1 := List.fst_mem_of_mem_zipIdx hx
    simp_arith [eqv_nil (hp.sh x.1 hx1)]
    refine ⟨fun hne => ?_, fun _ => trivial⟩
    unfold ce__law_roots_above_1
    obtain ⟨a, i⟩ := x
    cases a with
    | nil => simp at hne
    | cons t a =>
      have ht := hp.rg _ hx1 t List.mem_cons_self
      have e0 : gIx (.fz (encN (t :: a))) (.fz (.int 0)) = some (.fz (encT t)) := ix_t0
      have e1 : gIx (.fz (encT t)) (.fz (.int 0)) = some (.fz (.int t.1)) := ix_t0
      simp only at hx2
      simp_arith [e0, e1]
      refine gd_of (mul_sm (by omega) (by omega)) ?_
      simp_arith
      refine gd_of (mul_sm (by omega) (by omega)) ?_
      simp_arith
      rfl
  rw [map_fz' (fun x : Tms × Nat => encH ((x.1.headD (0, 0)).1 * den + x.2 * num, x.2))]
  have e : (p.zipIdx.filter fun x => !x.1.isEmpty).map (fun x : Tms × Nat => encH ((x.1.headD (0, 0)).1 * den + x.2 * num, x.2)) = (y :: ys).map encH := by
    rw [← hy]
    unfold hts
    rw [List.map_map]
    rfl
  rw [e]
  have hasc := hts_asc num den (zipIdx_asc p 0)
  rw [hy, List.pairwise_cons] at hasc
  have hm : g1 (gMm minD) [.ol (((y :: ys).map encH).map OV.fz)] = some (.fz (encH (ys.foldl pickH y))) := by
    have hk := okMin_hts (y :: ys)
    show gMm minD _ = _
    unfold gMm
    rw [seqX_o, ← minD_pick ys y hasc.2 hasc.1]
    rw [List.map_cons] at hk ⊢
    simp only [hk, if_true]
  simp only [List.map_cons] at hm
  simp_arith [hm, encH_1]
/-- what stands found on the package's way -/
def fndH (num den : Int) (xs : List (Tms × Nat)) : Option (Int × Nat) := match hts num den xs with
  | [] => none
  | y :: ys => some (ys.foldl pickH y)
def encF : Option (Int × Nat) → PyData
  | none => .none
  | some y => encH y
theorem hts_snoc (num den : Int) (xs : List (Tms × Nat)) (x : Tms × Nat) : hts num den (xs ++ [x]) = hts num den xs ++ (if x.1.isEmpty then [] else [((x.1.headD (0, 0)).1 * den + x.2 * num, x.2)]) := by
  unfold hts
  rw [List.filter_append, List.map_append]
  congr 1
  obtain ⟨a, i⟩ := x
  cases a with
  | nil => rfl
  | cons t a => rfl
theorem eqv_nilE {a : Tms} (h : ShN a) : gEq (.fz (encN a)) (.fz (.tuple [])) = some (.fz (.bool a.isEmpty)) := by
  have h2 : Shw 1 3 (.tuple []) := by simpa using Shw.tuple (h := 0) (m := 0) (ds := []) fun _ h => nomatch h
  unfold gEq
  have e1 : (OV.fz (encN a)).erase = encN a := er_fz
  have e2 : (OV.fz (.tuple [])).erase = .tuple [] := er_fz
  rw [e1, e2, h.shw.shaped (by decide), h2.shaped (by decide)]
  cases a with
  | nil => simp [encN]
  | cons t a => simp [encN]
theorem order_run {a : Tms} (h : ShN a) : m_order_of [.fz (encN a)] = some (.fz (encO (a.head?.map (·.1))), [.fz (encN a)]) := by
  apply W.eq
  unfold m_order_of
  simp_arith
  unfold mb_order_of
  simp_arith [eqv_nilE h]
  cases a with
  | nil =>
    simp_arith [List.isEmpty_nil]
    rfl
  | cons t a =>
    have e0 : gIx (.fz (encN (t :: a))) (.fz (.int 0)) = some (.fz (encT t)) := ix_t0
    have e1 : gIx (.fz (encT t)) (.fz (.int 0)) = some (.fz (.int t.1)) := ix_t0
    simp_arith [List.isEmpty_cons, e0, e1]
    rfl
theorem hts_snoc0 (num den : Int) (xs : List (Tms × Nat)) (i : Nat) : fndH num den (xs ++ [([], i)]) = fndH num den xs := by
  unfold fndH
  rw [hts_snoc]
  simp
theorem hts_snoc1 (num den : Int) (xs : List (Tms × Nat)) (t : Int × Rat) (a : Tms) (i : Nat) : fndH num den (xs ++ [(t :: a, i)]) = some (match fndH num den xs with
    | none => (t.1 * den + i * num, i)
    | some f => pickH f (t.1 * den + i * num, i)) := by
  unfold fndH
  rw [hts_snoc]
  cases hts num den xs with
  | nil => rfl
  | cons y ys => simp [List.foldl_append]
theorem encF_0 {f : Int × Nat} : gIx (.fz (encH f)) (.fz (.int 0)) = some (.fz (.int f.1)) := ix_t0
theorem roots_run {p : List Tms} (hp : HtOk p) {s : Rat} (h1 : s.num.natAbs ≤ 100) (h2 : s.den ≤ 100) {y : Int × Nat} {ys : List (Int × Nat)} (hy : hts s.num s.den p.zipIdx = y :: ys) :
    m_roots_above [.fz (encP p), .fz (encR s)] = some (.fz (.int (ys.foldl pickH y).2), [.fz (encP p), .fz (encR s)]) := by
  have hf := hp.few
  apply W.eq
  unfold m_roots_above
  simp_arith
  unfold mb_roots_above
  simp_arith [seq_P]
  rw [show enumD (p.map encN) = p.zipIdx.map fun x => PyData.tuple [.int (x.2 : Int), encN x.1] by rw [enumD_eq, List.zipIdx_map, List.map_map]; rfl]
  refine w_forL (fun x : Tms × Nat => PyData.tuple [.int (x.2 : Int), encN x.1]) (fun rest S => ∃ done, done ++ rest = p.zipIdx ∧ S = [.v (.fz (encP p)), .v (.fz (encR s)), .v (.fz (encF (fndH s.num s.den done))), .un, .un, .un, .un]) (as := p.zipIdx) ⟨[], rfl, rfl⟩ ?_ ?_
  · rintro ⟨a, i⟩ rest _ ⟨done, hd, rfl⟩
    have hx : (a, i) ∈ p.zipIdx := by rw [← hd]; simp
    have hx2 := List.snd_lt_of_mem_zipIdx hx
    have hx1 := List.fst_mem_of_mem_zipIdx hx
    simp only at hx1 hx2
    unfold fg_roots_above_1 fb_roots_above_1
    simp_arith
    refine w_eq (order_run (hp.sh a hx1)) ?_
    cases a with
    | nil =>
      simp only [List.head?_nil, Option.map_none, encO]
      simp_arith
      refine ⟨done ++ [([], i)], by simp [hd], ?_⟩
      rw [hts_snoc0]
    | cons t a =>
      have ht := hp.rg _ hx1 t List.mem_cons_self
      simp only [List.head?_cons, Option.map_some, encO]
      simp_arith [encR_0, encR_1]
      refine gd_of (mul_sm (by omega) (by omega)) ?_
      simp_arith [encR_0]
      refine gd_of (mul_sm (by omega) (by omega)) ?_
      simp_arith
      have hs := hts_snoc1 s.num s.den done t a i
      generalize t.1 * (s.den : Int) + i * s.num = hh at *
      cases hfd : fndH s.num s.den done with
      | none =>
        rw [hfd] at hs
        simp_arith [encF]
        exact ⟨done ++ [(t :: a, i)], by simp [hd], by rw [hs]; rfl⟩
      | some f =>
        rw [hfd] at hs
        simp_arith [encF, show isN (.fz (encH f)) = false from rfl, encF_0]
        refine br_dec (fun hlt => ?_) fun hlt => ?_
        · simp_arith
          refine ⟨done ++ [(t :: a, i)], by simp [hd], ?_⟩
          rw [hs]
          simp only [pickH, if_pos hlt]
          rfl
        · simp_arith
          refine ⟨done ++ [(t :: a, i)], by simp [hd], ?_⟩
          rw [hs]
          simp only [pickH, if_neg hlt]
  · rintro _ ⟨done, hd, rfl⟩
    rw [List.append_nil] at hd
    subst hd
    have : fndH s.num s.den p.zipIdx = some (ys.foldl pickH y) := by
      unfold fndH
      rw [hy]
    rw [this]
    simp_arith [encF, encH_1]
end PD
set_option Elab.async false
set_option linter.all false
set_option maxRecDepth 100000
set_option maxHeartbeats 4000000
set_option exponentiation.threshold 5000
namespace PD
open PySem L2 PD.G
variable {k : Nat} {b : Bag} {Q : OV → List OV → Prop}
theorem alike_run {h m : Nat} {d : PyData} (s : Shw h m d) (hh : h ≤ 64) (hm : m ≤ sizeLine) : m__law_alike [.fz d, .fz d] = some (.fz (.bool true), [.fz d, .fz d]) := by
  apply W.eq
  unfold m__law_alike
  simp_arith
  unfold mb__law_alike
  simp_arith [s.eqSelf hh, s.gRepr hh hm, s.eqRepr]
theorem alikeL_run {h m : Nat} {x y : OV} {d : PyData} (s : Shw h m d) (hh : h ≤ 64) (hm : m ≤ sizeLine) (hx : x.erase = d) (hy : y.erase = d) : gCallL m__law_alike [x, y] = some (.fz (.bool true)) := by
  unfold gCallL
  have e : (OV.eraseL [x, y]).map OV.fz = [.fz d, .fz d] := by simp [OV.eraseL, hx, hy]
  rw [e, alike_run s hh hm]
  rfl
theorem NB.shN {D M : Nat} {R : Int} {a : Tms} (h : NB D M R a) (hD0 : 0 < D) (hD : D < 2 ^ 100) (hM : M < 2 ^ 100) (hR0 : 0 ≤ R) (hR : R ≤ 900) : ShN a := by
  refine ⟨by have := h.len hR0; omega, fun t ht => ?_⟩
  have h1 := h.bd.one ht hD0
  have h2 := h.bd.rg t ht
  exact ⟨by omega, by omega, by omega⟩
theorem ShP {p : List Tms} (hl : p.length ≤ 15) (h : ∀ a ∈ p, ShN a) : Shw 4 13500033 (encP p) := by
  refine (Shw.list' (h := 3) (m := 900000) 15 (by simpa using hl) fun d hd => ?_).mono (Nat.le_refl _) (by decide)
  obtain ⟨a, ha, rfl⟩ := List.mem_map.1 hd
  exact (h a ha).shw
theorem sz1 : 13500033 ≤ sizeLine := by rw [x_size]; decide
/-- tables that can be shown -/
theorem tab_shw {n : Nat} (hn : n ≤ 10) {rows : List Row} (hl : rows.length ≤ 10) (hr : ∀ r ∈ rows, RowU n r) : Shw 6 1000000 (encTab n rows) := by
  have sI : ∀ i : Int, i.natAbs < 2 ^ 10 → Shw 0 11 (.int i) := fun i h => Shw.int (k := 10) (by decide) (by decide) h
  have sO : ∀ o : Option Int, (∀ x, o = some x → x.natAbs < 2 ^ 10) → Shw 0 11 (encO o) := fun o h => by
    cases o with
    | none => exact Shw.none.mono (Nat.le_refl _) (by decide)
    | some x => exact sI x (h x rfl)
  have sS : ∀ s : Side, SideOk s → s.1.natAbs < 2 ^ 10 → Shw 1 42 (encS s) := fun s h hu => by
    have h1 := h.lo
    have h2 := h.hi
    refine Shw.tuple' (h := 0) (m := 11) 3 (by simp) fun d hd => ?_
    simp only [List.mem_cons, List.not_mem_nil, or_false] at hd
    rcases hd with rfl | rfl | rfl
    · exact sI _ hu
    · exact sI _ (by omega)
    · exact sO _ fun x hx => by have := h.up x hx; omega
  have sR : ∀ p : Option (Int × Option Int), (∀ q, p = some q → SideOk (0, q)) → Shw 1 42 (encRt p) := fun p h => by
    cases p with
    | none => exact Shw.none.mono (by decide) (by decide)
    | some q =>
      have hq := h q rfl
      have h1 : -100 ≤ q.1 := hq.lo
      have h2 : q.1 ≤ 100 := hq.hi
      refine (Shw.pair (sI q.1 (by omega)) (sO q.2 fun x hx => ?_)).mono (Nat.le_refl _) (by decide)
      have h3 := hq.up x hx
      have h4 : q.1 ≤ x ∧ x ≤ q.1 + 50 := h3
      omega
  have sRow : ∀ r ∈ rows, Shw 3 1000 (encRow r) := fun r hr' => by
    have h := hr r hr'
    have s1 : Shw 2 443 (.tuple (r.1.map encS)) := by
      refine (Shw.tuple' (h := 1) (m := 42) 10 (by have := h.ok.few; simp; omega) fun d hd => ?_).mono (Nat.le_refl _) (by decide)
      obtain ⟨s, hs, rfl⟩ := List.mem_map.1 hd
      exact sS s (h.ok.sides s hs) (by have := h.rng s hs; omega)
    exact (Shw.pair s1 ((sR r.2 h.ok.root).mono (by decide) (by decide))).mono (Nat.le_refl _) (by decide)
  have s2 : Shw 4 10023 (.tuple (rows.map encRow)) := by
    refine (Shw.tuple' (h := 3) (m := 1000) 10 (by simpa using hl) fun d hd => ?_).mono (Nat.le_refl _) (by decide)
    obtain ⟨r, hr', rfl⟩ := List.mem_map.1 hd
    exact sRow r hr'
  exact (Shw.pair ((sI n (by omega)).mono (by decide) (by decide)) s2).mono (by decide) (by decide)
theorem due_nb {n : Nat} {rows : List Row} {tl : Tell} (h : SqOk n rows tl) : ∀ a ∈ dueN (matN n rows tl) n, NB (30 ^ n) (Mb n) (200 * n) a := by
  have hM := h.mt
  obtain ⟨_, hok⟩ := rows_run (a0 := .un) (a1 := .un) (matN n rows tl) 0 [([], [[(0, (1 : Rat))]])] (by rw [hM.ln]; have := h.n4; omega) start_ok fun row hr => ⟨by rw [hM.rl row hr]; exact h.n4, hM.nb row hr⟩
  rw [Nat.zero_add, hM.ln] at hok
  exact fun a ha => (hok.tb.hL _ (getP_mem (due_eq h))).2 a ha
theorem mb4 {n : Nat} (hn : n ≤ 4) : 0 < 30 ^ n ∧ 30 ^ n < 2 ^ 100 ∧ Mb n < 2 ^ 100 := by
  have : n = 0 ∨ n = 1 ∨ n = 2 ∨ n = 3 ∨ n = 4 := by omega
  rcases this with rfl | rfl | rfl | rfl | rfl <;> decide
theorem due_len {M : List (List Tms)} {n : Nat} : (dueN M n).length = n + 1 := by simp [dueN]
theorem due_ht {n : Nat} {rows : List Row} {tl : Tell} (h : SqOk n rows tl) : HtOk (dueN (matN n rows tl) n) := by
  have hn := h.n4
  obtain ⟨p1, p2, p3⟩ := mb4 hn
  refine ⟨by rw [due_len]; omega, fun a ha t ht => ?_, fun a ha => (due_nb h a ha).shN p1 p2 p3 (by omega) (by omega)⟩
  have := (due_nb h a ha).bd.rg t ht
  omega
/-! ### the top of a polynomial -/
theorem EntF_top {b : Tms} {own : Bool} {P : Fn} {d : Nat} (h : ∀ j, d < j → ∀ k, P j k = 0) : (∀ j, d + 1 < j → ∀ k, EntF b own P j k = 0) ∧ ∀ k, EntF b own P (d + 1) k = if own then - P d k else 0 := by
  have hz : ∀ j, d < j → P j = fun _ => 0 := fun j hj => funext fun k => h j hj k
  refine ⟨fun j hj k => ?_, fun k => ?_⟩
  · unfold EntF
    rw [hz j (by omega), conv_zero]
    split
    · rw [h (j - 1) (by omega)]; grind
    · grind
  · unfold EntF
    rw [hz (d + 1) (by omega), conv_zero]
    cases own with
    | true => simp; grind
    | false => simp; grind
/-- 1 or -1 where each is its own, else 0 -/
def topW : List (Nat × Nat) → Rat
  | [] => 1
  | x :: xs => if x.1 = x.2 then - topW xs else 0
theorem TwA_top (M : List (List Tms)) : ∀ (xs : List (Nat × Nat)) (P : Fn) (d : Nat), (∀ j, d < j → ∀ k, P j k = 0) → ∀ k, TwA M xs P (d + xs.length) k = topW xs * P d k
  | [], P, d, h, k => by simp only [TwA, topW, List.length_nil, Nat.add_zero]; grind
  | x :: xs, P, d, h, k => by
    obtain ⟨h1, h2⟩ := EntF_top (b := (M.getD x.2 []).getD x.1 []) (own := x.1 == x.2) h
    have := TwA_top M xs _ (d + 1) h1 k
    simp only [TwA, topW, List.length_cons]
    rw [show d + (xs.length + 1) = d + 1 + xs.length by omega, this, h2]
    by_cases hx : x.1 = x.2
    · rw [if_pos hx, if_pos (by simpa using hx)]; grind
    · rw [if_neg hx, if_neg (by simpa using hx)]; grind
theorem Tw_top (M : List (List Tms)) (w : List Nat) (k : Int) : Tw M w w.length k = topW w.zipIdx * (if k = 0 then 1 else 0) := by
  have := TwA_top M w.zipIdx dl 0 (fun j hj k => by unfold dl; rw [if_neg (by omega)]) k
  rw [Nat.zero_add, List.length_zipIdx] at this
  unfold Tw
  rw [this]
  unfold dl
  simp
theorem top_sum : ∀ n ≤ 4, sm (waysN n n) (fun x => (x.1 : Rat) * topW x.2.zipIdx) ≠ 0 := by decide +kernel
theorem due_top {n : Nat} {rows : List Row} {tl : Tell} (h : SqOk n rows tl) : ∃ a ∈ dueN (matN n rows tl) n, a ≠ [] := by
  have hn := h.n4
  have hM := h.mt
  obtain ⟨q, e, ql, qs⟩ := poly_sum h.n4 hM.ln hM.rl
  rw [due_eq h] at e
  cases e
  have h1 : n < (dueN (matN n rows tl) n).length := by omega
  refine ⟨_, List.getElem_mem h1, fun hz => ?_⟩
  have h2 := qs n 0
  have h3 : vP (dueN (matN n rows tl) n) n 0 = 0 := by
    unfold vP
    have : (dueN (matN n rows tl) n).getD n [] = (dueN (matN n rows tl) n)[n] := by simp [h1]
    rw [this, hz]
    rfl
  rw [h3] at h2
  refine top_sum n hn ?_
  rw [h2]
  refine sm_congr fun x hx => ?_
  have := Tw_top (matN n rows tl) x.2 0
  rw [waysN_len hx] at this
  rw [this]
  simp
theorem hts_ne {p : List Tms} (h : ∃ a ∈ p, a ≠ []) (num den : Int) : ∃ y ys, hts num den p.zipIdx = y :: ys := by
  obtain ⟨a, ha, hne⟩ := h
  obtain ⟨i, hi, rfl⟩ := List.getElem_of_mem ha
  cases hh : hts num den p.zipIdx with
  | cons y ys => exact ⟨y, ys, rfl⟩
  | nil =>
    exfalso
    unfold hts at hh
    rw [List.map_eq_nil_iff, List.filter_eq_nil_iff] at hh
    have := hh (p[i], i) (by
      refine List.mem_of_getElem? (i := i) ?_
      rw [List.getElem?_zipIdx]
      simp [hi])
    simp at this
    exact hne this
/-- one of the law's two roots -/
theorem both_roots {p : List Tms} (hp : HtOk p) (hne : ∃ a ∈ p, a ≠ []) {s : Rat} (h1 : s.num.natAbs ≤ 100) (h2 : s.den ≤ 100) : ∃ i : Nat, i < p.length ∧ m_roots_above [.fz (encP p), .fz (encR s)] = some (.fz (.int i), [.fz (encP p), .fz (encR s)]) ∧
    m__law_roots_above [.fz (encP p), .fz (.int s.num), .fz (.int s.den)] = some (.fz (.int i), [.fz (encP p), .fz (.int s.num), .fz (.int s.den)]) := by
  obtain ⟨y, ys, hy⟩ := hts_ne hne s.num s.den
  refine ⟨(ys.foldl pickH y).2, ?_, roots_run hp h1 h2 hy, lroots_run hp h1 (by omega) hy⟩
  have hm : ∀ (ys : List (Int × Nat)) (a : Int × Nat), ys.foldl pickH a ∈ a :: ys := fun ys => by
    induction ys with
    | nil => intro a; simp
    | cons z ys ih =>
      intro a
      rw [List.foldl_cons]
      have := ih (pickH a z)
      rcases List.mem_cons.1 this with e | e
      · rw [e]
        unfold pickH
        split <;> simp
      · exact List.mem_cons_of_mem _ (List.mem_cons_of_mem _ e)
  have h3 := hm ys y
  rw [← hy] at h3
  obtain ⟨x, hx, e⟩ := List.mem_map.1 h3
  rw [← e]
  have := List.snd_lt_of_mem_zipIdx (List.mem_filter.1 hx).1
  simpa using this
end PD
set_option Elab.async false
set_option linter.all false
set_option maxRecDepth 100000
set_option maxHeartbeats 4000000
set_option exponentiation.threshold 5000
namespace PD
open PySem L2 PD.G
variable {k : Nat} {b : Bag} {Q : OV → List OV → Prop}
theorem w_telling (h : Bk k b) (hk : k < 2 ^ 50) {n : Nat} {rs : List Row} (hl : rs.length ≤ 100) (hs : ∀ r ∈ rs, RowD r) (q : ∀ ts b', Bk (k + 27000) b' → TellsOk rs ts → Q (.fz (encTl ts)) [encB b', .fz (encTab n rs)]) :
    W (m__law_telling [encB b, .fz (encTab n rs)]) Q := by
  have := h.ix
  obtain ⟨b', ts, e, o, i, hf⟩ := telling_run h.ok (n := n) hl (by omega) hs
  exact ⟨_, _, e, q ts b' ⟨o, by omega⟩ hf⟩
/-- a drawn number -/
structure DrN (a : Tms) : Prop where
  sh : ShN a
  rg : ∀ t ∈ a, -2000 ≤ t.1 ∧ t.1 ≤ 2000
theorem DrN.nil : DrN [] := ⟨⟨by simp, fun _ h => nomatch h⟩, fun _ h => nomatch h⟩
theorem w_number (h : Bk k b) (hk : k < 2 ^ 50) {v : Option Int} (hv : ∀ x, v = some x → -100 ≤ x ∧ x ≤ 150) (q : ∀ a b', Bk (k + 25) b' → DrN a → (v.isSome = true → a ≠ []) → Q (.fz (encN a)) [encB b', .fz (encO v), .fz (.int 2)]) :
    W (m__law_number [encB b, .fz (encO v), .fz (.int 2)]) Q := by
  have := h.ix
  cases v with
  | none => exact ⟨_, _, number_none, q [] b (h.mono (by omega)) DrN.nil fun z => by cases z⟩
  | some o =>
    have := hv o rfl
    obtain ⟨a, b', o', e, hb, i, hN, l1, l2, l3⟩ := number_run h.ok (most := 2) (by decide) (by decide) (by omega) (o := o) (by omega) (by omega)
    have hnb := hN.nb (R := 200) (by omega) (by omega) (by omega)
    refine ⟨_, _, e, q a b' ⟨hb, by push_cast; omega⟩ ⟨hnb.shN (by decide) (by decide) (by decide) (by decide) (by decide), fun t ht => by have := hnb.bd.rg t ht; omega⟩ fun _ z => ?_⟩
    rw [z] at l2
    simp at l2
theorem at_ok : ∀ n ∈ [(0 : Int), 1, 2, 3, -1, 5, -3, 7, 4, -7], ∀ d ∈ [(1 : Int), 2, 1, 3, 1, 4], (mkRat n d.toNat).num.natAbs ≤ 100 ∧ (mkRat n d.toNat).den ≤ 100 := by decide +kernel
theorem w_at (h : Bk k b) (hk : k < 2 ^ 50) (q : ∀ (s : Rat) b', Bk (k + 2) b' → s.num.natAbs ≤ 100 → s.den ≤ 100 → Q (.fz (encR s)) [encB b']) :
    W (m__law_at_number [encB b]) Q := by
  have := h.ix
  obtain ⟨n, d, b', e, o, i, m1, m2⟩ := at_run h.ok (by omega)
  obtain ⟨h1, h2⟩ := at_ok n m1 d m2
  exact ⟨_, _, e, q _ b' ⟨o, by push_cast; omega⟩ h1 h2⟩
theorem TellsOk.sq {rs : List Row} {ts : Tell} (h : TellsOk rs ts) : ts.length = rs.length ∧ ((∀ r ∈ rs, RowD r) → ∀ x ∈ rs.zip ts, RowOk 30 7000 200 x.1 x.2) := by
  induction h with
  | nil => exact ⟨rfl, fun _ x hx => by simp at hx⟩
  | cons h1 h2 ih =>
    refine ⟨by simp [ih.1], fun hr x hx => ?_⟩
    rw [List.zip_cons_cons] at hx
    rcases List.mem_cons.1 hx with z | z
    · rw [z]
      exact ⟨h1.len, (hr _ List.mem_cons_self).few, h1.sides⟩
    · exact ih.2 (fun r hr' => hr r (List.mem_cons_of_mem _ hr')) x z
abbrev Lw (s0 : SV) (b : Bag) (s2 s3 s4 s5 s6 s7 s8 s9 s10 s11 s12 s13 : SV) : SS := [s0, .v (encB b), s2, s3, s4, s5, s6, s7, s8, s9, s10, s11, s12, s13]
/-- polynomial_of is told once -/
theorem told_run {n : Nat} {rows : List Row} {tl : Tell} (h : SqOk n rows tl) (hr : ∀ r ∈ rows, RowU n r) {s0 : SV} {s2 : SV} {s7 : SV} {Q : Fl → SS → Prop}
    (q : ∀ s8 : SV, Q .nx (Lw s0 b s2 (.v (.fz (encTab n rows))) (.v (.fz (encTl tl))) (.v (.fz (.str (encTab n rows).shown))) (.v (.fz (encP (dueN (matN n rows tl) n)))) s7 s8 .un .un .un .un .un)) :
    W (fb_law_1 (Lw s0 b s2 (.v (.fz (encTab n rows))) (.v (.fz (encTl tl))) (.v (.fz (.str (encTab n rows).shown))) (.v (.fz (encP (dueN (matN n rows tl) n)))) s7 .un .un .un .un .un .un)) Q := by
  have hn := h.n4
  have hpo := polynomial_run h (due_eq h)
  have hts := tab_shw (by omega) (by rw [h.sq]; omega) hr
  have hps := ShP (by rw [due_len]; omega) (due_ht h).sh
  have hal : gCallL m__law_alike [encPo (dueN (matN n rows tl) n), .fz (encP (dueN (matN n rows tl) n))] = some (.fz (.bool true)) := alikeL_run hps (by decide) sz1 (erase_encPo _) er_fz
  have hl : (dueN (matN n rows tl) n).length ≤ 5 := by rw [due_len]; omega
  generalize dueN (matN n rows tl) n = due at *
  unfold fb_law_1
  simp_arith
  refine w_eq hpo ?_
  simp_arith [hal, hts.gRepr (by decide) (by rw [x_size]; decide), hts.neRepr]
  unfold encPo
  simp_arith
  refine gd_of (by rw [x_size]; simp; omega) ?_
  exact q _
/-- the two roots of one list -/
theorem roots_body {p : List Tms} (hp : HtOk p) (hl : p.length ≤ 15) (hne : ∃ a ∈ p, a ≠ []) (h : Bk k b) (hk : k < 2 ^ 50) {s0 s2 s3 s4 s5 s6 s9 : SV} {Q : Fl → SS → Prop}
    (q : ∀ b' s11 s12, Bk (k + 2) b' → Q .nx (Lw s0 b' s2 s3 s4 s5 s6 .un .un s9 (.v (.fz (encP p))) s11 s12 .un)) :
    W (fb_law_2 (Lw s0 b s2 s3 s4 s5 s6 .un .un s9 (.v (.fz (encP p))) .un .un .un)) Q := by
  have hps := ShP hl hp.sh
  unfold fb_law_2
  simp_arith [encB_fz]
  refine w_at h hk fun s b' hb' h1 h2 => ?_
  obtain ⟨i, hi, e1, e2⟩ := both_roots hp hne h1 h2
  have hsi : Shw 0 11 (.int (i : Int)) := Shw.int (k := 10) (by decide) (by decide) (by omega)
  simp_arith [encB_fz, hps.gRepr (by decide) sz1]
  refine w_eq e1 ?_
  simp_arith [encR_0, encR_1]
  refine w_eq e2 ?_
  simp_arith
  refine w_eq (alike_run hsi (by decide) (by rw [x_size]; decide)) ?_
  simp_arith [hps.gRepr (by decide) sz1, hps.neRepr]
  exact q b' _ _ hb'
end PD
set_option Elab.async false
set_option linter.all false
set_option maxRecDepth 100000
set_option maxHeartbeats 4000000
set_option exponentiation.threshold 5000
namespace PD
open PySem L2 PD.G
variable {k : Nat} {b : Bag}
theorem encO_some (x : Int) : PyData.int x = encO (some x) := rfl
theorem encO_none : PyData.none = encO none := rfl
theorem v_mulL {ds : List PyData} {x : Int} : gMulX (.fz (.list ds)) (.fz (.int x)) = if okR x && decide (ds.length * x.toNat ≤ sizeLine) then some (.ol ((List.replicate x.toNat ds).flatten.map OV.fz)) else none := rfl
theorem v_catLL {a : List PyData} {b : List PyData} : gAddX (.fz (.list a)) (.ol (b.map OV.fz)) = if a.length + b.length ≤ sizeLine then some (.ol ((a ++ b).map OV.fz)) else none := v_catFL
theorem rep_nil (n : Nat) : (List.replicate n [PyData.tuple []]).flatten = (List.replicate n ([] : Tms)).map encN := by
  induction n with
  | zero => rfl
  | succ n ih => rw [List.replicate_succ, List.flatten_cons, ih, List.replicate_succ]; rfl
theorem turn_run (h : Bk k b) (hk : k < 2 ^ 44) {s0 s2 : SV} {Q : Fl → SS → Prop}
    (q : ∀ b' s3 s4 s5 s6 s9, Bk (k + 50000) b' → Q .nx (Lw s0 b' s2 s3 s4 s5 s6 .un .un s9 .un .un .un .un)) :
    W (fb_law_3 (Lw s0 b s2 .un .un .un .un .un .un .un .un .un .un .un)) Q := by
  unfold fb_law_3
  refine w_seq (fun S1 => ∃ (n : Nat) (rows : List Row) (b' : Bag), S1 = Lw s0 b' s2 (.v (.fz (encTab n rows))) .un .un .un .un .un .un .un .un .un .un ∧ Bk (k + 10000) b' ∧ n ≤ 4 ∧ rows.length = n ∧ ∀ r ∈ rows, RowU n r) ?_ ?_
  · simp_arith [encB_fz]
    refine w_square h (by omega) fun n rows b' hb' hn hl hr => ?_
    simp_arith [encB_fz]
    exact ⟨n, rows, b', rfl, hb', hn, hl, hr⟩
  rintro _ ⟨n, rows, b1, rfl, hb1, hn, hl, hr⟩
  have hts := tab_shw (n := n) (by omega) (by omega) hr
  refine w_seq (fun S1 => ∃ (tl : Tell) (b' : Bag), S1 = Lw s0 b' s2 (.v (.fz (encTab n rows))) (.v (.fz (encTl tl))) (.v (.fz (.str (encTab n rows).shown))) .un .un .un .un .un .un .un .un ∧ Bk (k + 37000) b' ∧ SqOk n rows tl) ?_ ?_
  · simp_arith [encB_fz]
    refine w_telling hb1 (by omega) (by omega) (fun r hr' => (hr r hr').ok) fun tl b' hb' ht => ?_
    simp_arith [encB_fz, hts.gRepr (by decide) (by rw [x_size]; decide)]
    have := ht.sq
    exact ⟨tl, b', rfl, hb', ⟨hn, hl, by rw [this.1, hl], this.2 fun r hr' => (hr r hr').ok⟩⟩
  rintro _ ⟨tl, b2, rfl, hb2, hsq⟩
  refine w_seq (fun S1 => S1 = Lw s0 b2 s2 (.v (.fz (encTab n rows))) (.v (.fz (encTl tl))) (.v (.fz (.str (encTab n rows).shown))) (.v (.fz (encP (dueN (matN n rows tl) n)))) .un .un .un .un .un .un .un) ?_ ?_
  · simp_arith
    refine w_eq (lpoly_run hsq) ?_
    simp_arith [erase_encPo]
  rintro _ rfl
  refine w_seq (fun S1 => S1 = Lw s0 b2 s2 (.v (.fz (encTab n rows))) (.v (.fz (encTl tl))) (.v (.fz (.str (encTab n rows).shown))) (.v (.fz (encP (dueN (matN n rows tl) n)))) .un .un .un .un .un .un .un) ?_ ?_
  · simp_arith
    refine gd_of (by decide) ?_
    refine w_forL (fun i : Nat => .int (0 + (i : Int))) (fun rest S => S = Lw s0 b2 s2 (.v (.fz (encTab n rows))) (.v (.fz (encTl tl))) (.v (.fz (.str (encTab n rows).shown))) (.v (.fz (encP (dueN (matN n rows tl) n)))) .un .un .un .un .un .un .un) (as := List.range (Int.toNat 2)) rfl ?_ ?_
    · rintro a as _ rfl
      unfold fg_law_1
      simp_arith
      refine told_run hsq hr fun s8 => ?_
      simp_arith
    · rintro _ rfl
      exact ⟨rfl, rfl⟩
  rintro _ rfl
  have hdl : (dueN (matN n rows tl) n).length ≤ 15 := by rw [due_len]; omega
  have hdh := due_ht hsq
  have hdt := due_top hsq
  generalize dueN (matN n rows tl) n = due at *
  generalize (SV.v (.fz (encTab n rows))) = s3 at *
  generalize (SV.v (.fz (encTl tl))) = s4 at *
  generalize (SV.v (.fz (.str (encTab n rows).shown))) = s5 at *
  refine w_seq (fun S1 => ∃ (ps : List Tms) (b' : Bag), S1 = Lw s0 b' s2 s3 s4 s5 (.v (.fz (encP due))) .un .un (.v (.ol ((ps.map encN).map OV.fz))) .un .un .un .un ∧ Bk (k + 38000) b' ∧ ps.length ≤ 6 ∧ ∀ a ∈ ps, DrN a) ?_ ?_
  · simp_arith [encB_fz]
    refine w_take hb2 (by omega) (by omega) (by omega) fun v b3 hb3 v0 v1 => ?_
    simp_arith [encB_fz]
    refine gd_of (okR_of (by omega) (by omega)) ?_
    refine w_lcL (fun i : Nat => .int (0 + (i : Int))) (fun rest acc S => ∃ (ps : List Tms) (b' : Bag), S = Lw s0 b' s2 s3 s4 s5 (.v (.fz (encP due))) .un .un .un .un .un .un .un ∧ acc = (ps.map encN).map OV.fz ∧ Bk (k + 37001 + 30 * ps.length) b' ∧ ps.length + rest.length = v.toNat ∧ ∀ a ∈ ps, DrN a) (as := List.range v.toNat) ⟨[], b3, rfl, rfl, hb3.mono (by simp), by simp, fun _ h => nomatch h⟩ ?_ ?_
    · rintro a as acc _ ⟨ps, b4, rfl, rfl, hb4, hl', hs⟩
      simp only [List.length_cons] at hl'
      unfold ce_law_1
      simp_arith [encB_fz]
      refine w_some' (xs := [.none, .int 0, .int 1, .int 5, .int (-3), .int 2, .int 9]) hb4 (by omega) (by simp) (by simp) fun x b5 hb5 hx => ?_
      simp_arith [encB_fz]
      have hv : ∃ o : Option Int, x = encO o ∧ ∀ y, o = some y → -100 ≤ y ∧ y ≤ 150 := by
        simp only [List.mem_cons, List.not_mem_nil, or_false] at hx
        rcases hx with rfl | rfl | rfl | rfl | rfl | rfl | rfl
        · exact ⟨none, rfl, fun y hy => nomatch hy⟩
        · exact ⟨some 0, rfl, fun y hy => by cases hy; omega⟩
        · exact ⟨some 1, rfl, fun y hy => by cases hy; omega⟩
        · exact ⟨some 5, rfl, fun y hy => by cases hy; omega⟩
        · exact ⟨some (-3), rfl, fun y hy => by cases hy; omega⟩
        · exact ⟨some 2, rfl, fun y hy => by cases hy; omega⟩
        · exact ⟨some 9, rfl, fun y hy => by cases hy; omega⟩
      obtain ⟨o, rfl, ho⟩ := hv
      refine w_number hb5 (by omega) ho fun a b6 hb6 hd _ => ?_
      simp_arith [encB_fz]
      refine gd_of (by rw [x_size]; simp; omega) ⟨ps ++ [a], b6, rfl, by simp, hb6.mono (by simp; omega), by simp; omega, fun y hy => ?_⟩
      rcases List.mem_append.1 hy with z | z
      · exact hs y z
      · simp at z; rw [z]; exact hd
    · rintro _ _ ⟨ps, b4, rfl, rfl, hb4, hl', hs⟩
      simp only [List.length_nil] at hl'
      simp_arith
      exact ⟨ps, b4, rfl, hb4.mono (by omega), by omega, hs⟩
  rintro _ ⟨ps, b3, rfl, hb3, hpl, hps⟩
  refine w_seq (fun S1 => ∃ (ps : List Tms) (b' : Bag), S1 = Lw s0 b' s2 s3 s4 s5 (.v (.fz (encP due))) .un .un (.v (.ol ((ps.map encN).map OV.fz))) .un .un .un .un ∧ Bk (k + 39000) b' ∧ ps.length ≤ 10 ∧ (∀ a ∈ ps, DrN a) ∧ ∃ a ∈ ps, a ≠ []) ?_ ?_
  · simp_arith [encB_fz]
    refine w_someI [0, 4, -2] hb3 (by omega) (by simp) (by simp) fun x b4 hb4 hx => ?_
    simp_arith [encB_fz]
    simp only [List.mem_cons, List.not_mem_nil, or_false] at hx
    rw [encO_some x]
    refine w_number hb4 (by omega) (v := some x) (fun y hy => by cases hy; omega) fun a b5 hb5 hd hne => ?_
    have hne := hne rfl
    simp_arith [encB_fz]
    have e1 : (OV.ol [OV.fz (encN a)]) = .ol (([a].map encN).map OV.fz) := rfl
    rw [e1, v_catLL]
    simp_arith [encB_fz]
    refine gd_of (by rw [x_size]; simp; omega) ?_
    have e2 : (OV.ol [OV.fz (.tuple [])]).erase = .list [PyData.tuple []] := by simp
    simp_arith [encB_fz, e2]
    refine w_someI [0, 1, 0, 2] hb5 (by omega) (by simp) (by simp) fun x b6 hb6 hx => ?_
    simp_arith [encB_fz]
    simp only [List.mem_cons, List.not_mem_nil, or_false] at hx
    rw [e2, v_mulL]
    simp_arith [encB_fz]
    refine gd_of (by simp only [okR_of (i := x) (by omega) (by omega), Bool.true_and, decide_eq_true_eq]; rw [x_size]; simp; omega) ?_
    rw [rep_nil, er_ol, v_catLL]
    simp_arith [encB_fz]
    refine gd_of (by rw [x_size]; simp; omega) ?_
    simp_arith
    refine ⟨ps ++ [a] ++ List.replicate x.toNat [], b6, by simp, hb6.mono (by omega), by simp; omega, fun y hy => ?_, a, by simp, hne⟩
    rcases List.mem_append.1 hy with z | z
    · rcases List.mem_append.1 z with z | z
      · exact hps y z
      · simp at z; rw [z]; exact hd
    · have := List.eq_of_mem_replicate z
      rw [this]
      exact DrN.nil
  rintro _ ⟨ps, b4, rfl, hb4, hpl, hps, hpt⟩
  simp_arith
  refine w_forL encP (fun rest S => ∃ (done : List (List Tms)) (b' : Bag), done ++ rest = [due, ps] ∧ S = Lw s0 b' s2 s3 s4 s5 (.v (.fz (encP due))) .un .un (.v (.fz (encP ps))) .un .un .un .un ∧ Bk (k + 39000 + 2 * done.length) b') (as := [due, ps]) ⟨[], b4, rfl, rfl, hb4⟩ ?_ ?_
  · rintro p rest _ ⟨done, b5, hd, rfl, hb5⟩
    have hmem : p ∈ [due, ps] := by rw [← hd]; simp
    have hdn : done.length ≤ 1 := by
      have := congrArg List.length hd
      simp at this
      omega
    have hp : HtOk p ∧ p.length ≤ 15 ∧ ∃ a ∈ p, a ≠ [] := by
      simp only [List.mem_cons, List.not_mem_nil, or_false] at hmem
      rcases hmem with rfl | rfl
      · exact ⟨hdh, hdl, hdt⟩
      · exact ⟨⟨by omega, fun a ha => (hps a ha).rg, fun a ha => (hps a ha).sh⟩, by omega, hpt⟩
    unfold fg_law_2
    simp_arith
    refine roots_body hp.1 hp.2.1 hp.2.2 hb5 (by omega) fun b6 s11 s12 hb6 => ?_
    simp_arith
    exact ⟨done ++ [p], b6, by simp [hd], rfl, hb6.mono (by simp; omega)⟩
  · rintro _ ⟨done, b5, hd, rfl, hb5⟩
    rw [List.append_nil] at hd
    subst hd
    exact q b5 s3 s4 s5 _ _ (hb5.mono (by simp))
theorem law_true (ns : List Int) (h : ns.length ≤ 63) : ∃ avs', m_law [.fz (scrD (ns.map PyData.int))] = some (.fz (.bool true), avs') := by
  suffices hw : W (m_law [.fz (scrD (ns.map PyData.int))]) fun o _ => o = .fz (.bool true) by
    obtain ⟨o, a, e, rfl⟩ := hw
    exact ⟨a, e⟩
  unfold m_law
  simp_arith
  unfold mb_law
  simp_arith
  refine w_eq (bag_run h) ?_
  simp_arith
  refine gd_of (by decide) ?_
  refine w_forL (fun i : Nat => .int (0 + (i : Int))) (fun rest S => ∃ (b' : Bag), S = Lw (.v (.fz (scrD (ns.map PyData.int)))) b' .un .un .un .un .un .un .un .un .un .un .un .un ∧ rest.length ≤ 8 ∧ Bk (50000 * (8 - rest.length)) b') (as := List.range (Int.toNat 8)) ⟨bagOf ns, rfl, by decide, (bag_ok h).mono (Nat.zero_le _)⟩ ?_ ?_
  · rintro a as _ ⟨b1, rfl, hl, hb1⟩
    rw [List.length_cons] at hl hb1
    unfold fg_law_3
    simp_arith
    refine turn_run hb1 (by omega) fun b' s3 s4 s5 s6 s9 hb' => ?_
    simp_arith
    exact ⟨b', rfl, by omega, hb'.mono (by omega)⟩
  · rintro _ ⟨b1, rfl, _, _⟩
    simp_arith
end PD
set_option Elab.async false
set_option linter.all false
set_option maxRecDepth 100000
open PySem PySem.W PyProof.Rows
set_option maxHeartbeats 0 in
theorem PySem.Challenge.cw_leastpowers_k53_polynomials_holds : PySem.Challenge.rw_leastpowers_k53_polynomials.Holds := by
  w_on; o_law; k_head; (case hw => w_witness2)
  k_fill
  refine PD.walk_ofG (l := PySem.Challenge.rw_leastpowers_k53_polynomials) (n := 63) (k := 8) (x := "_law_script") (sp := fun w => PD.spF _ PD.G.m_law) rfl (by decide) rfl ⟨rfl, by decide, by decide⟩ (fun w h Y => PySem.W.kIn_of Y) ?F (fun _ H a ns hl hb hO hS => by obtain ⟨avs, h⟩ := PD.law_true ns hl; exact PD.law_sp hO hS h)
  case F =>
    intro w mg fa h KX G hmg
    refine' PD.G.all_mk KX G hmg ?a_0 ?l_0 ?c_0 ?k_0 ?a_1 ?l_1 ?c_1 ?k_1 ?a_2 ?l_2 ?c_2 ?k_2 ?a_3 ?l_3 ?c_3 ?k_3 ?a_4 ?l_4 ?c_4 ?k_4 ?a_5 ?l_5 ?c_5 ?k_5 ?a_6 ?l_6 ?c_6 ?k_6 ?a_7 ?l_7 ?c_7 ?k_7 ?a_8 ?l_8 ?c_8 ?k_8 ?a_9 ?l_9 ?c_9 ?k_9 ?a_10 ?l_10 ?c_10 ?k_10 ?a_11 ?l_11 ?c_11 ?k_11 ?a_12 ?l_12 ?c_12 ?k_12 ?a_13 ?l_13 ?c_13 ?k_13 ?a_14 ?l_14 ?c_14 ?k_14 ?a_15 ?l_15 ?c_15 ?k_15 ?a_16 ?l_16 ?c_16 ?k_16 ?a_17 ?l_17 ?c_17 ?k_17 ?a_18 ?l_18 ?c_18 ?k_18 ?a_19 ?l_19 ?c_19 ?k_19 ?a_20 ?l_20 ?c_20 ?k_20 ?a_21 ?l_21 ?c_21 ?k_21 ?a_22 ?l_22 ?c_22 ?k_22 ?a_23 ?l_23 ?c_23 ?k_23 ?a_24 ?l_24 ?c_24 ?k_24 ?a_25 ?l_25 ?c_25 ?k_25 ?a_26 ?l_26 ?c_26 ?k_26 ?a_27 ?l_27 ?c_27 ?k_27 ?a_28 ?l_28 ?c_28 ?k_28 ?a_29 ?l_29 ?c_29 ?k_29 ?a_30 ?l_30 ?c_30 ?k_30 ?a_31 ?l_31 ?c_31 ?k_31 ?a_32 ?l_32 ?c_32 ?k_32 ?a_33 ?l_33 ?c_33 ?k_33 ?a_34 ?l_34 ?c_34 ?k_34 ?a_35 ?l_35 ?c_35 ?k_35 ?a_36 ?l_36 ?c_36 ?k_36 ?a_37 ?l_37 ?c_37 ?k_37 ?a_38 ?l_38 ?c_38 ?k_38 ?a_39 ?l_39 ?c_39 ?k_39 ?a_40 ?l_40 ?c_40 ?k_40 ?y_abs ?y_enumerate ?y_int ?y_len ?y_list ?y_min ?y_range ?y_repr ?y_sorted ?y_tuple ?y_zip ?y_gcd
    (case a_0 => k_is); (case l_0 => k_is); (case c_0 => k_is); (case k_0 => k_is); (case a_1 => k_is); (case l_1 => k_is); (case c_1 => k_is); (case k_1 => k_is); (case a_2 => k_is); (case l_2 => k_is); (case c_2 => k_is); (case k_2 => k_is); (case a_3 => k_is); (case l_3 => k_is); (case c_3 => k_is); (case k_3 => k_is); (case a_4 => k_is); (case l_4 => k_is); (case c_4 => k_is); (case k_4 => k_is); (case a_5 => k_is); (case l_5 => k_is); (case c_5 => k_is); (case k_5 => k_is); (case a_6 => k_is); (case l_6 => k_is); (case c_6 => k_is); (case k_6 => k_is); (case a_7 => k_is); (case l_7 => k_is); (case c_7 => k_is); (case k_7 => k_is); (case a_8 => k_is); (case l_8 => k_is); (case c_8 => k_is); (case k_8 => k_is); (case a_9 => k_is); (case l_9 => k_is); (case c_9 => k_is); (case k_9 => k_is); (case a_10 => k_is); (case l_10 => k_is); (case c_10 => k_is); (case k_10 => k_is); (case a_11 => k_is); (case l_11 => k_is); (case c_11 => k_is); (case k_11 => k_is); (case a_12 => k_is); (case l_12 => k_is); (case c_12 => k_is); (case k_12 => k_is); (case a_13 => k_is); (case l_13 => k_is); (case c_13 => k_is); (case k_13 => k_is); (case a_14 => k_is); (case l_14 => k_is); (case c_14 => k_is); (case k_14 => k_is); (case a_15 => k_is); (case l_15 => k_is); (case c_15 => k_is); (case k_15 => k_is); (case a_16 => k_is); (case l_16 => k_is); (case c_16 => k_is); (case k_16 => k_is); (case a_17 => k_is); (case l_17 => k_is); (case c_17 => k_is); (case k_17 => k_is); (case a_18 => k_is); (case l_18 => k_is); (case c_18 => k_is); (case k_18 => k_is); (case a_19 => k_is); (case l_19 => k_is); (case c_19 => k_is); (case k_19 => k_is); (case a_20 => k_is); (case l_20 => k_is); (case c_20 => k_is); (case k_20 => k_is); (case a_21 => k_is); (case l_21 => k_is); (case c_21 => k_is); (case k_21 => k_is); (case a_22 => k_is); (case l_22 => k_is); (case c_22 => k_is); (case k_22 => k_is); (case a_23 => k_is); (case l_23 => k_is); (case c_23 => k_is); (case k_23 => k_is); (case a_24 => k_is); (case l_24 => k_is); (case c_24 => k_is); (case k_24 => k_is); (case a_25 => k_is); (case l_25 => k_is); (case c_25 => k_is); (case k_25 => k_is); (case a_26 => k_is); (case l_26 => k_is); (case c_26 => k_is); (case k_26 => k_is); (case a_27 => k_is); (case l_27 => k_is); (case c_27 => k_is); (case k_27 => k_is); (case a_28 => k_is); (case l_28 => k_is); (case c_28 => k_is); (case k_28 => k_is); (case a_29 => k_is); (case l_29 => k_is); (case c_29 => k_is); (case k_29 => k_is); (case a_30 => k_is); (case l_30 => k_is); (case c_30 => k_is); (case k_30 => k_is); (case a_31 => k_is); (case l_31 => k_is); (case c_31 => k_is); (case k_31 => k_is); (case a_32 => k_is); (case l_32 => k_is); (case c_32 => k_is); (case k_32 => k_is); (case a_33 => k_is); (case l_33 => k_is); (case c_33 => k_is); (case k_33 => k_is); (case a_34 => k_is); (case l_34 => k_is); (case c_34 => k_is); (case k_34 => k_is); (case a_35 => k_is); (case l_35 => k_is); (case c_35 => k_is); (case k_35 => k_is); (case a_36 => k_is); (case l_36 => k_is); (case c_36 => k_is); (case k_36 => k_is); (case a_37 => k_is); (case l_37 => k_is); (case c_37 => k_is); (case k_37 => k_is); (case a_38 => k_is); (case l_38 => k_is); (case c_38 => k_is); (case k_38 => k_is); (case a_39 => k_is); (case l_39 => k_is); (case c_39 => k_is); (case k_39 => k_is); (case a_40 => k_is); (case l_40 => k_is); (case c_40 => k_is); (case k_40 => k_is); (case y_abs => k_is); (case y_enumerate => k_is); (case y_int => k_is); (case y_len => k_is); (case y_list => k_is); (case y_min => k_is); (case y_range => k_is); (case y_repr => k_is); (case y_sorted => k_is); (case y_tuple => k_is); (case y_zip => k_is); (case y_gcd => k_is)
