import PyProof.Rows.All
import Wide.All
import OpenK.AllK
import Wide.FinOn
import HandS.ForMost
import HandS.ForExc
import HandS.TupAny
import HandS.SortInts
import HandS.Strs
import HandS.Conv
import HandS.Zip
import HandS.Deep
import HandS.IsInst
import HandS.SetFor
import KE.KSortedM
import HandS.SortRule
import HandS.Ends
import HandS.Iter
import HandS.Call
import KE.GoesMore
import HandS.Rev
import HandS.More
import HandS.TupLe
import HandS.ExcInit
import HandS.ExcValue
import KE.KExcIs
import HandS.ExcField
import HandS.ExcIs
import KE.KRevSl
import HandS.HotCalls
import PySem.Challenge.RW_fewrooms_k36_all_paths
set_option Elab.async false
set_option linter.all false
set_option maxRecDepth 100000
/- part Fw1 -/
namespace Fw
open PySem PySem.Spec PyProof.Rows L2

/-! ### data -/
inductive D where
  | non | bl (b : Bool) | int (i : Int) | str (x : Str)
  | lst (o : Bool) (xs : List D)
  | tup (xs : List D)
  | dk (o : Bool) (ks : List Key) (xs : List D)
  | dt (o : Bool) (ks : List (List Key)) (xs : List D)
  | rs
  | ob (o : Bool) (C : Str) (fs : List Str) (xs : List D)
  | ev (C : Str) (fs : List Str) (xs : List D)

mutual
def frz : D → D
  | .lst _ xs => .lst false (frzL xs)
  | .tup xs => .tup (frzL xs)
  | .dk _ ks xs => .dk false ks (frzL xs)
  | .dt _ ks xs => .dt false ks (frzL xs)
  | .ob _ C fs xs => .ob false C fs (frzL xs)
  | .ev C fs xs => .ev C fs xs
  | .non => .non
  | .bl b => .bl b
  | .int i => .int i
  | .str x => .str x
  | .rs => .rs
def frzL : List D → List D
  | [] => []
  | d :: ds => frz d :: frzL ds
end
mutual
def shr : D → Bool
  | .lst o xs => !o && shrL xs
  | .tup xs => shrL xs
  | .dk o _ xs => !o && shrL xs
  | .dt o _ xs => !o && shrL xs
  | .ob o _ _ xs => !o && shrL xs
  | .ev _ _ _ => true
  | .non => true
  | .bl _ => true
  | .int _ => true
  | .str _ => true
  | .rs => true
def shrL : List D → Bool
  | [] => true
  | d :: ds => shr d && shrL ds
end
mutual
def clo : D → Bool
  | .lst o xs => o && cloL xs
  | .tup xs => cloL xs
  | .dk o _ xs => o && cloL xs
  | .dt o _ xs => o && cloL xs
  | .ob o _ _ xs => o && cloL xs
  | .ev _ _ _ => false
  | .non => true
  | .bl _ => true
  | .int _ => true
  | .str _ => true
  | .rs => true
def cloL : List D → Bool
  | [] => true
  | d :: ds => clo d && cloL ds
end

/-- the random state's place, the classes' places -/
structure Gs where
  rs : Option (Addr × Addr)
  cl : Str → Addr

/-- a plain value -/
def scV : D → Option V
  | .non => some .non
  | .bl b => some (.bl b)
  | .int i => some (.int i)
  | .str x => some (.str x)
  | _ => none
/-- at a: an exception that is held, its class, its dict -/
def ExV (cls : Value) (d : Option Addr) (a : Addr) : HO := .ext fun h => ∃ (oe : Obj) (vs : Array Value), h.get? a = some oe ∧ Zc cls d oe ∧ oe.data = .fields vs
def ExD (Hs : Hp) (d : Option Addr) (fvs : List (Str × V)) : Prop := match d with
  | none => fvs = []
  | some dd => Hs dd = some (.xd fvs)
section
variable (S : Gs) (H Hs : Hp)
mutual
inductive Rp : D → V → List Addr → Prop
  | non : Rp .non .non []
  | bl (b : Bool) : Rp (.bl b) (.bl b) []
  | int (i : Int) : Rp (.int i) (.int i) []
  | str (x : Str) : Rp (.str x) (.str x) []
  | lstS {a : Addr} {vs : List V} {ds : List D} (h : Hs a = some (.lst vs)) (r : RpL ds vs []) : Rp (.lst false ds) (.ref a) []
  | lstO {a : Addr} {vs : List V} {ds : List D} {F : List Addr} (h : H a = some (.lst vs)) (r : RpL ds vs F) : Rp (.lst true ds) (.ref a) (a :: F)
  | tup {a : Addr} {vs : List V} {ds : List D} {F : List Addr} (h : Hs a = some (.tup vs)) (r : RpL ds vs F) : Rp (.tup ds) (.ref a) F
  | dkS {a : Addr} {kvs : List (Key × V)} {ds : List D} (h : Rd Hs a (.dK kvs)) (r : RpL ds (kvs.map (·.2)) []) : Rp (.dk false (kvs.map (·.1)) ds) (.ref a) []
  | dkO {a : Addr} {kvs : List (Key × V)} {ds : List D} {F : List Addr} (h : H a = some (.dK kvs)) (r : RpL ds (kvs.map (·.2)) F) : Rp (.dk true (kvs.map (·.1)) ds) (.ref a) (a :: F)
  | dtS {a : Addr} {kvs : List (List Key × V)} {ds : List D} (h : Hs a = some (.dT kvs)) (r : RpL ds (kvs.map (·.2)) []) : Rp (.dt false (kvs.map (·.1)) ds) (.ref a) []
  | dtO {a : Addr} {kvs : List (List Key × V)} {ds : List D} {F : List Addr} (h : H a = some (.dT kvs)) (r : RpL ds (kvs.map (·.2)) F) : Rp (.dt true (kvs.map (·.1)) ds) (.ref a) (a :: F)
  | rs {s c : Addr} (h : S.rs = some (s, c)) : Rp .rs (.ref s) []
  | obS {a dx : Addr} {C : Str} {fvs : List (Str × V)} {ds : List D} (h : Hs a = some (.ins (S.cl C) dx fvs)) (r : RpL ds (fvs.map (·.2)) []) : Rp (.ob false C (fvs.map (·.1)) ds) (.ref a) []
  | obO {a dx : Addr} {C : Str} {fvs : List (Str × V)} {ds : List D} {F : List Addr} (h : H a = some (.ins (S.cl C) dx fvs)) (r : RpL ds (fvs.map (·.2)) F) : Rp (.ob true C (fvs.map (·.1)) ds) (.ref a) (a :: F)
  | ev {a : Addr} {d : Option Addr} {C : Str} {fvs : List (Str × V)} {ds : List D} (h : Hs a = some (ExV (.ref (S.cl C)) d a)) (hd : ExD Hs d fvs) (r : ds.map scV = fvs.map fun p => some p.2) (hz : S.cl C ≠ 0) : Rp (.ev C (fvs.map (·.1)) ds) (.ref a) []
inductive RpL : List D → List V → List Addr → Prop
  | nil : RpL [] [] []
  | cons {d : D} {v : V} {ds : List D} {vs : List V} {F G : List Addr} (h : Rp d v F) (r : RpL ds vs G) : RpL (d :: ds) (v :: vs) (F ++ G)
end
end

theorem rd_mono {Hs Hs' : Hp} {a : Addr} {u : HO} (h : Rd Hs a u) (m : ∀ a o, Hs a = some o → Hs' a = some o) : Rd Hs' a u := by
  rcases h with h | ⟨o, h⟩
  · exact .inl (m _ _ h)
  · exact .inr ⟨o, m _ _ h⟩
theorem exD_mono {Hs Hs' : Hp} {d : Option Addr} {fvs : List (Str × V)} (h : ExD Hs d fvs) (m : ∀ a o, Hs a = some o → Hs' a = some o) : ExD Hs' d fvs := by
  cases d with
  | none => exact h
  | some dd => exact m _ _ h
section
variable {S : Gs} {H Hs H' Hs' : Hp}
theorem RpL.cons0 {d : D} {v : V} {ds : List D} {vs : List V} (h : Rp S H Hs d v []) (r : RpL S H Hs ds vs []) : RpL S H Hs (d :: ds) (v :: vs) [] := RpL.cons (F := []) (G := []) h r
mutual
theorem Rp.mono : ∀ {d : D} {v : V} {F : List Addr}, Rp S H Hs d v F → (∀ a ∈ F, ∀ o, H a = some o → H' a = some o) → (∀ a o, Hs a = some o → Hs' a = some o) → Rp S H' Hs' d v F
  | _, _, _, .non, _, _ => .non
  | _, _, _, .bl b, _, _ => .bl b
  | _, _, _, .int b, _, _ => .int b
  | _, _, _, .str b, _, _ => .str b
  | _, _, _, .rs h, _, _ => .rs h
  | _, _, _, .lstS h r, k, m => .lstS (m _ _ h) (RpL.mono r k m)
  | _, _, _, .lstO h r, k, m => .lstO (k _ List.mem_cons_self _ h) (RpL.mono r (fun a ha => k a (List.mem_cons_of_mem _ ha)) m)
  | _, _, _, .tup h r, k, m => .tup (m _ _ h) (RpL.mono r k m)
  | _, _, _, .dkS h r, k, m => .dkS (rd_mono h m) (RpL.mono r k m)
  | _, _, _, .dkO h r, k, m => .dkO (k _ List.mem_cons_self _ h) (RpL.mono r (fun a ha => k a (List.mem_cons_of_mem _ ha)) m)
  | _, _, _, .dtS h r, k, m => .dtS (m _ _ h) (RpL.mono r k m)
  | _, _, _, .dtO h r, k, m => .dtO (k _ List.mem_cons_self _ h) (RpL.mono r (fun a ha => k a (List.mem_cons_of_mem _ ha)) m)
  | _, _, _, .obS h r, k, m => .obS (m _ _ h) (RpL.mono r k m)
  | _, _, _, .obO h r, k, m => .obO (k _ List.mem_cons_self _ h) (RpL.mono r (fun a ha => k a (List.mem_cons_of_mem _ ha)) m)
  | _, _, _, .ev h hd r z, k, m => .ev (m _ _ h) (exD_mono hd m) r z
theorem RpL.mono : ∀ {d : List D} {v : List V} {F : List Addr}, RpL S H Hs d v F → (∀ a ∈ F, ∀ o, H a = some o → H' a = some o) → (∀ a o, Hs a = some o → Hs' a = some o) → RpL S H' Hs' d v F
  | _, _, _, .nil, _, _ => .nil
  | _, _, _, .cons h r, k, m => .cons (Rp.mono h (fun a ha => k a (List.mem_append_left _ ha)) m) (RpL.mono r (fun a ha => k a (List.mem_append_right _ ha)) m)
end
mutual
theorem Rp.frz : ∀ {d : D} {v : V} {F : List Addr}, Rp S H Hs d v F → (∀ a ∈ F, ∀ o, H a = some o → Hs' a = some o) → (∀ a o, Hs a = some o → Hs' a = some o) → Rp S H' Hs' (frz d) v []
  | _, _, _, .non, _, _ => by rw [Fw.frz]; exact .non
  | _, _, _, .bl b, _, _ => by rw [Fw.frz]; exact .bl b
  | _, _, _, .int b, _, _ => by rw [Fw.frz]; exact .int b
  | _, _, _, .str b, _, _ => by rw [Fw.frz]; exact .str b
  | _, _, _, .rs h, _, _ => by rw [Fw.frz]; exact .rs h
  | _, _, _, .lstS h r, k, m => by rw [Fw.frz]; exact .lstS (m _ _ h) (RpL.frz r k m)
  | _, _, _, .lstO h r, k, m => by rw [Fw.frz]; exact .lstS (k _ List.mem_cons_self _ h) (RpL.frz r (fun a ha => k a (List.mem_cons_of_mem _ ha)) m)
  | _, _, _, .tup h r, k, m => by rw [Fw.frz]; exact .tup (m _ _ h) (RpL.frz r k m)
  | _, _, _, .dkS h r, k, m => by rw [Fw.frz]; exact .dkS (rd_mono h m) (RpL.frz r k m)
  | _, _, _, .dkO h r, k, m => by rw [Fw.frz]; exact .dkS (.inl (k _ List.mem_cons_self _ h)) (RpL.frz r (fun a ha => k a (List.mem_cons_of_mem _ ha)) m)
  | _, _, _, .dtS h r, k, m => by rw [Fw.frz]; exact .dtS (m _ _ h) (RpL.frz r k m)
  | _, _, _, .dtO h r, k, m => by rw [Fw.frz]; exact .dtS (k _ List.mem_cons_self _ h) (RpL.frz r (fun a ha => k a (List.mem_cons_of_mem _ ha)) m)
  | _, _, _, .obS h r, k, m => by rw [Fw.frz]; exact .obS (m _ _ h) (RpL.frz r k m)
  | _, _, _, .obO h r, k, m => by rw [Fw.frz]; exact .obS (k _ List.mem_cons_self _ h) (RpL.frz r (fun a ha => k a (List.mem_cons_of_mem _ ha)) m)
  | _, _, _, .ev h hd r z, k, m => by rw [Fw.frz]; exact .ev (m _ _ h) (exD_mono hd m) r z
theorem RpL.frz : ∀ {d : List D} {v : List V} {F : List Addr}, RpL S H Hs d v F → (∀ a ∈ F, ∀ o, H a = some o → Hs' a = some o) → (∀ a o, Hs a = some o → Hs' a = some o) → RpL S H' Hs' (frzL d) v []
  | _, _, _, .nil, _, _ => by rw [frzL]; exact .nil
  | _, _, _, .cons h r, k, m => by rw [frzL]; exact .cons0 (Rp.frz h (fun a ha => k a (List.mem_append_left _ ha)) m) (RpL.frz r (fun a ha => k a (List.mem_append_right _ ha)) m)
end
mutual
theorem Rp.shr : ∀ {d : D} {v : V} {F : List Addr}, Rp S H Hs d v F → Fw.shr d = true → F = []
  | _, _, _, .non, _ => rfl
  | _, _, _, .bl b, _ => rfl
  | _, _, _, .int b, _ => rfl
  | _, _, _, .str b, _ => rfl
  | _, _, _, .rs h, _ => rfl
  | _, _, _, .lstS h r, k => rfl
  | _, _, _, .lstO h r, k => by rw [Fw.shr] at k; simp at k
  | _, _, _, .tup h r, k => by rw [Fw.shr] at k; exact RpL.shr r k
  | _, _, _, .dkS h r, k => rfl
  | _, _, _, .dkO h r, k => by rw [Fw.shr] at k; simp at k
  | _, _, _, .dtS h r, k => rfl
  | _, _, _, .dtO h r, k => by rw [Fw.shr] at k; simp at k
  | _, _, _, .obS h r, k => rfl
  | _, _, _, .obO h r, k => by rw [Fw.shr] at k; simp at k
  | _, _, _, .ev _ _ _ _, k => rfl
theorem RpL.shr : ∀ {d : List D} {v : List V} {F : List Addr}, RpL S H Hs d v F → shrL d = true → F = []
  | _, _, _, .nil, _ => rfl
  | _, _, _, .cons h r, k => by
    rw [shrL, Bool.and_eq_true] at k
    rw [Rp.shr h k.1, RpL.shr r k.2]; rfl
end
mutual
theorem Rp.clo : ∀ {d : D} {v : V} {F : List Addr}, Rp S H Hs d v F → Fw.clo d = true → (∀ a ∈ F, ∀ o, H a = some o → H' a = some o) → (∀ a vs, Hs a = some (.tup vs) → Hs' a = some (.tup vs)) → Rp S H' Hs' d v F
  | _, _, _, .non, _, _, _ => .non
  | _, _, _, .bl b, _, _, _ => .bl b
  | _, _, _, .int b, _, _, _ => .int b
  | _, _, _, .str b, _, _, _ => .str b
  | _, _, _, .rs h, _, _, _ => .rs h
  | _, _, _, .lstS h r, k, m, n => by rw [Fw.clo] at k; simp at k
  | _, _, _, .lstO h r, k, m, n => by rw [Fw.clo] at k; exact .lstO (m _ List.mem_cons_self _ h) (RpL.clo r (by simpa using k) (fun a ha => m a (List.mem_cons_of_mem _ ha)) n)
  | _, _, _, .tup h r, k, m, n => by rw [Fw.clo] at k; exact .tup (n _ _ h) (RpL.clo r k m n)
  | _, _, _, .dkS h r, k, m, n => by rw [Fw.clo] at k; simp at k
  | _, _, _, .dkO h r, k, m, n => by rw [Fw.clo] at k; exact .dkO (m _ List.mem_cons_self _ h) (RpL.clo r (by simpa using k) (fun a ha => m a (List.mem_cons_of_mem _ ha)) n)
  | _, _, _, .dtS h r, k, m, n => by rw [Fw.clo] at k; simp at k
  | _, _, _, .dtO h r, k, m, n => by rw [Fw.clo] at k; exact .dtO (m _ List.mem_cons_self _ h) (RpL.clo r (by simpa using k) (fun a ha => m a (List.mem_cons_of_mem _ ha)) n)
  | _, _, _, .obS h r, k, m, n => by rw [Fw.clo] at k; simp at k
  | _, _, _, .ev _ _ _ _, k, m, n => by rw [Fw.clo] at k; simp at k
  | _, _, _, .obO h r, k, m, n => by rw [Fw.clo] at k; exact .obO (m _ List.mem_cons_self _ h) (RpL.clo r (by simpa using k) (fun a ha => m a (List.mem_cons_of_mem _ ha)) n)
theorem RpL.clo : ∀ {d : List D} {v : List V} {F : List Addr}, RpL S H Hs d v F → cloL d = true → (∀ a ∈ F, ∀ o, H a = some o → H' a = some o) → (∀ a vs, Hs a = some (.tup vs) → Hs' a = some (.tup vs)) → RpL S H' Hs' d v F
  | _, _, _, .nil, _, _, _ => .nil
  | _, _, _, .cons h r, k, m, n => by
    rw [cloL, Bool.and_eq_true] at k
    exact .cons (Rp.clo h k.1 (fun a ha => m a (List.mem_append_left _ ha)) n) (RpL.clo r k.2 (fun a ha => m a (List.mem_append_right _ ha)) n)
end
mutual
/-- own nodes are no tuples -/
theorem Rp.noTup : ∀ {d : D} {v : V} {F : List Addr}, Rp S H Hs d v F → ∀ a ∈ F, ∀ vs, H a ≠ some (.tup vs)
  | _, _, _, .non, _, h, _ => nomatch h
  | _, _, _, .bl b, _, h, _ => nomatch h
  | _, _, _, .int b, _, h, _ => nomatch h
  | _, _, _, .str b, _, h, _ => nomatch h
  | _, _, _, .rs _, _, h, _ => nomatch h
  | _, _, _, .lstS _ _, _, h, _ => nomatch h
  | _, _, _, .lstO h r, a, ha, vs => by
    rcases List.mem_cons.mp ha with rfl | ha
    · rw [h]; nofun
    · exact RpL.noTup r a ha vs
  | _, _, _, .tup h r, a, ha, vs => RpL.noTup r a ha vs
  | _, _, _, .dkS _ _, _, h, _ => nomatch h
  | _, _, _, .dkO h r, a, ha, vs => by
    rcases List.mem_cons.mp ha with rfl | ha
    · rw [h]; nofun
    · exact RpL.noTup r a ha vs
  | _, _, _, .dtS _ _, _, h, _ => nomatch h
  | _, _, _, .dtO h r, a, ha, vs => by
    rcases List.mem_cons.mp ha with rfl | ha
    · rw [h]; nofun
    · exact RpL.noTup r a ha vs
  | _, _, _, .obS _ _, _, h, _ => nomatch h
  | _, _, _, .ev _ _ _ _, _, h, _ => nomatch h
  | _, _, _, .obO h r, a, ha, vs => by
    rcases List.mem_cons.mp ha with rfl | ha
    · rw [h]; nofun
    · exact RpL.noTup r a ha vs
theorem RpL.noTup : ∀ {d : List D} {v : List V} {F : List Addr}, RpL S H Hs d v F → ∀ a ∈ F, ∀ vs, H a ≠ some (.tup vs)
  | _, _, _, .nil, _, h, _ => nomatch h
  | _, _, _, .cons h r, a, ha, vs => by
    rcases List.mem_append.mp ha with ha | ha
    · exact Rp.noTup h a ha vs
    · exact RpL.noTup r a ha vs
end
theorem RpL.length {d : List D} {v : List V} {F : List Addr} (h : RpL S H Hs d v F) : d.length = v.length := by
  induction d generalizing v F with
  | nil => cases h; rfl
  | cons x xs ih => cases h with | cons h r => simp [ih r]
theorem RpL.get : ∀ {ds : List D} {vs : List V} {F : List Addr} {i : Nat} {d : D}, RpL S H Hs ds vs F → ds[i]? = some d → ∃ v G, vs[i]? = some v ∧ Rp S H Hs d v G ∧ ∀ a ∈ G, a ∈ F
  | _, _, _, 0, _, .cons h r, e => by simp at e; subst e; exact ⟨_, _, rfl, h, fun a ha => List.mem_append_left _ ha⟩
  | _, _, _, i + 1, d, .cons h r, e => by
    obtain ⟨v, G, h1, h2, h3⟩ := RpL.get (i := i) (d := d) r (by simpa using e)
    exact ⟨v, G, by simpa using h1, h2, fun a ha => List.mem_append_right _ (h3 a ha)⟩
theorem RpL.get0 {ds : List D} {vs : List V} {i : Nat} {d : D} (r : RpL S H Hs ds vs []) (e : ds[i]? = some d) : ∃ v, vs[i]? = some v ∧ Rp S H Hs d v [] := by
  obtain ⟨v, G, h1, h2, h3⟩ := r.get e
  have : G = [] := List.eq_nil_iff_forall_not_mem.mpr fun a ha => by simpa using h3 a ha
  subst this
  exact ⟨v, h1, h2⟩
theorem RpL.get' {ds : List D} {vs : List V} {i : Nat} {v : V} (r : RpL S H Hs ds vs []) (e : vs[i]? = some v) : ∃ d, ds[i]? = some d ∧ Rp S H Hs d v [] := by
  have hl := r.length
  have hi : i < ds.length := by rw [hl]; exact (List.getElem?_eq_some_iff.mp e).1
  obtain ⟨v', h1, h2⟩ := r.get0 (List.getElem?_eq_getElem hi)
  rw [e] at h1; cases h1
  exact ⟨_, List.getElem?_eq_getElem hi, h2⟩
theorem RpL.append {ds es : List D} {vs ws : List V} {F G : List Addr} (h : RpL S H Hs ds vs F) (k : RpL S H Hs es ws G) : RpL S H Hs (ds ++ es) (vs ++ ws) (F ++ G) := by
  induction ds generalizing vs F with
  | nil => cases h; exact k
  | cons x xs ih => cases h with | cons h r => rw [List.append_assoc]; exact .cons h (ih r)
theorem RpL.cons_nil {d : D} {ds : List D} {v : V} {vs : List V} (h : RpL S H Hs (d :: ds) (v :: vs) []) : Rp S H Hs d v [] ∧ RpL S H Hs ds vs [] := by
  generalize e : ([] : List Addr) = F at h
  cases h with
  | cons h r =>
    obtain ⟨rfl, rfl⟩ := List.append_eq_nil_iff.mp e.symm
    exact ⟨h, r⟩
/-- all from pointwise -/
theorem RpL.of {ds : List D} {vs : List V} (hl : ds.length = vs.length) (h : ∀ (i : Nat) (d : D) (v : V), ds[i]? = some d → vs[i]? = some v → Rp S H Hs d v []) : RpL S H Hs ds vs [] := by
  induction ds generalizing vs with
  | nil => cases vs with
    | nil => exact .nil
    | cons v vs => simp at hl
  | cons d ds ih => cases vs with
    | nil => simp at hl
    | cons v vs =>
      refine .cons0 (h 0 d v rfl rfl) (ih (by simpa using hl) fun i d' v' h1 h2 => h (i + 1) d' v' (by simpa using h1) (by simpa using h2))
end

def hid (M : List Addr) (H : Hp) : Hp := fun a => if a ∈ M then none else H a
theorem hid_some {M : List Addr} {H : Hp} {a : Addr} {o : HO} (h : hid M H a = some o) : a ∉ M ∧ H a = some o := by
  unfold hid at h; split at h
  · cases h
  · exact ⟨by assumption, h⟩
theorem hid_of {M : List Addr} {H : Hp} {a : Addr} {o : HO} (h : H a = some o) (n : a ∉ M) : hid M H a = some o := by
  unfold hid; rw [if_neg n]; exact h

def sA (S : Gs) : List Addr := match S.rs with
  | none => []
  | some (s, c) => [s, c]
/-- the random state -/
structure RSt where
  cells : List Int
  turn : Int
def StOk (S : Gs) (st : RSt) (H : Hp) : Prop := match S.rs with
  | none => True
  | some (s, c) => s ≠ c ∧ H s = some (.dK [(.inr "cells", .ref c), (.inr "turn", .int st.turn)]) ∧ H c = some (.lst (st.cells.map V.int))
theorem StOk.mono {S : Gs} {st : RSt} {H H' : Hp} (h : StOk S st H) (k : ∀ a ∈ sA S, ∀ o, H a = some o → H' a = some o) : StOk S st H' := by
  obtain ⟨rs, cl⟩ := S
  match rs, h, k with
  | none, _, _ => trivial
  | some (s, c), ⟨h1, h2, h3⟩, k => exact ⟨h1, k s (by simp [sA]) _ h2, k c (by simp [sA]) _ h3⟩

inductive Sv where
  | no | sh (d : D) | ow (d : D)
structure En where
  vs : List Sv
  st : RSt
/-- an exception: its class, its fields; outs: what the arguments that are lent are behind it -/
structure Exc where
  cls : Str
  fs : List (Str × D)
  outs : List D := []
inductive Out (α : Type) where
  | ok (a : α) (ρ : En)
  | ex (x : Exc) (ρ : En)
  | no
def Out.bind {α β : Type} (o : Out α) (f : α → En → Out β) : Out β := match o with
  | .ok a ρ => f a ρ
  | .ex x ρ => .ex x ρ
  | .no => .no
def Out.wp {α : Type} (o : Out α) (Q : α → En → Prop) (X : Exc → En → Prop) : Prop := match o with
  | .ok a ρ => Q a ρ
  | .ex x ρ => X x ρ
  | .no => False
theorem Out.wp_bind {α β : Type} {o : Out α} {f : α → En → Out β} {Q : β → En → Prop} {X : Exc → En → Prop} (h : (o.bind f).wp Q X) : o.wp (fun a ρ => (f a ρ).wp Q X) X := by
  cases o with
  | ok a ρ => exact h
  | ex x ρ => exact h
  | no => exact h
theorem Out.wp_mono {α : Type} {o : Out α} {Q Q' : α → En → Prop} {X X' : Exc → En → Prop} (h : o.wp Q X) (hq : ∀ a ρ, Q a ρ → Q' a ρ) (hx : ∀ x ρ, X x ρ → X' x ρ) : o.wp Q' X' := by
  cases o with
  | ok a ρ => exact hq _ _ h
  | ex x ρ => exact hx _ _ h
  | no => exact h

/-- a slot -/
def RpV (S : Gs) (H Hs : Hp) (s : Sv) (ov : Option (Option V)) (F : List Addr) : Prop := match s with
  | .no => True
  | .sh d => ∃ v, ov = some (some v) ∧ Rp S H Hs d v []
  | .ow d => ∃ v, ov = some (some v) ∧ Rp S H Hs d v F

/-- the ground of a body: the heap at its entry, the random state's place, what is hidden from it, what is wished of an exception -/
structure Bs where
  H0 : Hp
  S : Gs
  M : List Addr
  W : WX
  me : Nat → Option Addr := fun _ => none
/-- the slots aren't a lent argument's -/
def Bs.free (B : Bs) (is : List Nat) : Bool := is.all fun i => (B.me i).isNone
theorem Bs.free1 {B : Bs} {i : Nat} (h : B.free [i] = true) : B.me i = none := by
  unfold Bs.free at h
  simpa using h
theorem Bs.freeL {B : Bs} {is : List Nat} (h : B.free is = true) {i : Nat} (hi : i ∈ is) : B.me i = none := by
  unfold Bs.free at h
  simpa using List.all_eq_true.mp h i hi
theorem Bs.free_cons {B : Bs} {i : Nat} {is : List Nat} (h : B.free (i :: is) = true) : B.free [i] = true ∧ B.free is = true := by
  unfold Bs.free at h ⊢
  simpa using h
abbrev Tm := List (D × V)
abbrev Ix := Nat ⊕ Nat
def HLen (H : Hp) : Prop := ∀ a vs, H a = some (.lst vs) ∨ H a = some (.tup vs) → vs.length ≤ sizeLine
/-- the pointwise part -/
structure Pt (B : Bs) (T : Tm) (vs : List Sv) (σ : L2.St) (H : Hp) (F : List Addr) (fp : Ix → List Addr) : Prop where
  tm : ∀ (j : Nat) (d : D) (v : V), T[j]? = some (d, v) → Rp B.S H (hid (B.M ++ F) H) d v (fp (.inl j))
  sl : ∀ (i : Nat) (s : Sv), vs[i]? = some s → RpV B.S H (hid (B.M ++ F) H) s σ[i]? (fp (.inr i))
  nd : ∀ i, (fp i).Nodup
  ap : ∀ i j a, a ∈ fp i → a ∈ fp j → i = j
  sub : ∀ i, ∀ a ∈ fp i, a ∈ F
structure R (B : Bs) (T : Tm) (ρ : En) (σ : L2.St) (H : Hp) (F : List Addr) : Prop where
  len : σ.length = ρ.vs.length
  pt : ∃ fp : Ix → List Addr, Pt B T ρ.vs σ H F fp
  dj : ∀ a ∈ B.M, a ∉ F
  sM : ∀ a ∈ sA B.S, a ∈ B.M
  md : ∀ a ∈ B.M, H a ≠ none
  st : StOk B.S ρ.st H
  ext : ∀ a o, B.H0 a = some o → a ∉ sA B.S → H a = some o
  new : ∀ a ∈ F, B.H0 a = none
  hl : HLen H
  own : ∀ a ∈ F, H a ≠ none
  pin : ∀ i a, B.me i = some a → σ[i]? = some (some (.ref a))
/-- a value read where it stands, its own nodes among F -/
def RpB (B : Bs) (H : Hp) (F : List Addr) (d : D) (v : V) (G : List Addr) : Prop := Rp B.S H (hid (B.M ++ F) H) d v G ∧ ∀ a ∈ G, a ∈ F

section
variable {B : Bs} {T T' : Tm} {ρ : En} {σ : L2.St} {H H' : Hp} {F : List Addr}
theorem hid_mono {M : List Addr} (k : ∀ b o, H b = some o → H' b = some o) : ∀ a o, hid M H a = some o → hid M H' a = some o := fun a o h => by
  obtain ⟨h1, h2⟩ := hid_some h
  exact hid_of (k _ _ h2) h1
theorem RpV.mono {S : Gs} {Hs Hs' : Hp} {s : Sv} {ov : Option (Option V)} {G : List Addr} (h : RpV S H Hs s ov G) (k : ∀ a ∈ G, ∀ o, H a = some o → H' a = some o) (m : ∀ a o, Hs a = some o → Hs' a = some o) : RpV S H' Hs' s ov G := by
  cases s with
  | no => trivial
  | sh d => obtain ⟨v, e, r⟩ := h; exact ⟨v, e, r.mono (fun _ z => nomatch z) m⟩
  | ow d => obtain ⟨v, e, r⟩ := h; exact ⟨v, e, r.mono k m⟩
theorem R.drop (h : R B (T ++ T') ρ σ H F) : R B T ρ σ H F := by
  obtain ⟨fp, p⟩ := h.pt
  exact { h with pt := ⟨fp, { p with tm := fun j d v e => p.tm j d v (by
    have hj : j < T.length := (List.getElem?_eq_some_iff.mp e).1
    rw [List.getElem?_append_left hj]; exact e) }⟩ }
theorem R.drop1 {t : D × V} (h : R B (T ++ [t]) ρ σ H F) : R B T ρ σ H F := h.drop
theorem R.grow (h : R B T ρ σ H F) (k : ∀ b o, H b = some o → H' b = some o) (hl : HLen H') : R B T ρ σ H' F := by
  obtain ⟨fp, p⟩ := h.pt
  refine { h with pt := ⟨fp, { p with tm := fun j d v e => (p.tm j d v e).mono (fun a _ => k a) (hid_mono k), sl := fun i s e => (p.sl i s e).mono (fun a _ => k a) (hid_mono k) }⟩, st := h.st.mono fun a _ => k a, ext := fun a o e n => k _ _ (h.ext a o e n), hl := hl, own := fun a ha e => ?_, md := fun a ha e => ?_ }
  · cases q : H a with
    | none => exact h.md a ha q
    | some o => rw [k a o q] at e; cases e
  · cases q : H a with
    | none => exact h.own a ha q
    | some o => rw [k a o q] at e; cases e
def fpSet (fp : Ix → List Addr) (i : Ix) (G : List Addr) : Ix → List Addr := fun j => if j = i then G else fp j
theorem fpSet_same {fp : Ix → List Addr} {i : Ix} {G : List Addr} : fpSet fp i G i = G := if_pos rfl
theorem fpSet_ne {fp : Ix → List Addr} {i j : Ix} {G : List Addr} (h : j ≠ i) : fpSet fp i G j = fp j := if_neg h
theorem last_get {T : Tm} {t : D × V} {j : Nat} {d : D} {v : V} (h : (T ++ [t])[j]? = some (d, v)) : (j < T.length ∧ T[j]? = some (d, v)) ∨ (j = T.length ∧ t = (d, v)) := by
  by_cases hj : j < T.length
  · rw [List.getElem?_append_left hj] at h; exact .inl ⟨hj, h⟩
  · rw [List.getElem?_append_right (Nat.le_of_not_lt hj)] at h
    have e : j - T.length = 0 := by
      have := (List.getElem?_eq_some_iff.mp h).1
      simpa using this
    rw [e] at h
    exact .inr ⟨by omega, by simpa using h⟩
/-- a value that is nobody's is put on the pile -/
theorem R.push {d : D} {v : V} (h : R B T ρ σ H F) (r : Rp B.S H (hid (B.M ++ F) H) d v []) : R B (T ++ [(d, v)]) ρ σ H F := by
  obtain ⟨fp, p⟩ := h.pt
  refine { h with pt := ⟨fpSet fp (.inl T.length) [], ⟨fun j d' v' e => ?_, fun i s e => ?_, fun i => ?_, fun i j a hi hj => ?_, fun i a hi => ?_⟩⟩ }
  · rcases last_get e with ⟨hj, e⟩ | ⟨ej, e⟩
    · rw [fpSet_ne (by intro z; cases z; omega)]; exact p.tm j _ _ e
    · cases e; rw [ej, fpSet_same]; exact r
  · rw [fpSet_ne (by intro z; cases z)]; exact p.sl i s e
  · by_cases hi : i = .inl T.length
    · rw [hi, fpSet_same]; exact List.nodup_nil
    · rw [fpSet_ne hi]; exact p.nd i
  · by_cases qi : i = .inl T.length
    · rw [qi, fpSet_same] at hi; cases hi
    · by_cases qj : j = .inl T.length
      · rw [qj, fpSet_same] at hj; cases hj
      · rw [fpSet_ne qi] at hi; rw [fpSet_ne qj] at hj; exact p.ap i j a hi hj
  · by_cases qi : i = .inl T.length
    · rw [qi, fpSet_same] at hi; cases hi
    · rw [fpSet_ne qi] at hi; exact p.sub i a hi
theorem Rp.scal {S : Gs} {Hs : Hp} {d : D} {v : V} (h : match d with | .non => v = .non | .bl b => v = .bl b | .int i => v = .int i | .str x => v = .str x | _ => False) : Rp S H Hs d v [] := by
  cases d <;> simp at h <;> subst h <;> constructor
/-- a place's own nodes are given free -/
theorem R.thaw {fp : Ix → List Addr} (h : R B T ρ σ H F) (p : Pt B T ρ.vs σ H F fp) (q : Ix → Bool) :
    ∃ F', (∀ a, a ∈ F' ↔ a ∈ F ∧ ∀ i, q i = true → a ∉ fp i) ∧ (∀ a o, hid (B.M ++ F) H a = some o → hid (B.M ++ F') H a = some o) ∧ (∀ i, q i = true → ∀ a ∈ fp i, ∀ o, H a = some o → hid (B.M ++ F') H a = some o) := by
  classical
  refine ⟨F.filter fun a => decide (∀ i, q i = true → a ∉ fp i), fun a => by simp, fun a o e => ?_, fun i hi a ha o e => ?_⟩
  · obtain ⟨n, e⟩ := hid_some e
    refine hid_of e fun m => n ?_
    rcases List.mem_append.mp m with m | m
    · exact List.mem_append_left _ m
    · exact List.mem_append_right _ (List.mem_filter.mp m).1
  · refine hid_of e fun m => ?_
    rcases List.mem_append.mp m with m | m
    · exact h.dj a m (p.sub i a ha)
    · exact of_decide_eq_true (List.mem_filter.mp m).2 i hi ha
theorem getElem?_set' {α : Type} {l : List α} {i j : Nat} {x y : α} (h : (l.set i x)[j]? = some y) : (i = j ∧ y = x) ∨ (i ≠ j ∧ l[j]? = some y) := by
  by_cases e : i = j
  · subst e
    rw [List.getElem?_set] at h
    simp at h
    exact .inl ⟨rfl, h.2.symm⟩
  · rw [List.getElem?_set_ne e] at h; exact .inr ⟨e, h⟩
/-- slot i is frozen and read -/
theorem R.freeze {i : Nat} {d : D} (h : R B T ρ σ H F) (e : ρ.vs[i]? = some (.ow d)) : ∃ v F', σ[i]? = some (some v) ∧ R B (T ++ [(frz d, v)]) { ρ with vs := ρ.vs.set i (.sh (frz d)) } σ H F' := by
  obtain ⟨fp, p⟩ := h.pt
  obtain ⟨v, ev, r⟩ := (show RpV _ _ _ (.ow d) _ _ from p.sl i _ e)
  obtain ⟨F', hF, m, k⟩ := h.thaw p fun j => decide (j = .inr i)
  have rz : Rp B.S H (hid (B.M ++ F') H) (frz d) v [] := r.frz (k (.inr i) (by simp)) m
  refine ⟨v, F', ev, R.push ?_ rz⟩
  refine { h with len := by simp [h.len], pt := ⟨fpSet fp (.inr i) [], ⟨fun j d' v' q => ?_, fun j s q => ?_, fun j => ?_, fun j l a hj hl => ?_, fun j a hj => ?_⟩⟩, dj := fun a ha q => h.dj a ha ((hF a).mp q).1, new := fun a ha => h.new a ((hF a).mp ha).1, own := fun a ha => h.own a ((hF a).mp ha).1 }
  · rw [fpSet_ne (by intro z; cases z)]
    exact (p.tm j _ _ q).mono (fun _ _ _ z => z) m
  · rcases getElem?_set' q with ⟨rfl, rfl⟩ | ⟨ne, q⟩
    · exact ⟨v, ev, rz⟩
    · rw [fpSet_ne (by intro z; cases z; exact ne rfl)]
      exact (p.sl j s q).mono (fun _ _ _ z => z) m
  · by_cases q : j = .inr i
    · rw [q, fpSet_same]; exact List.nodup_nil
    · rw [fpSet_ne q]; exact p.nd j
  · by_cases qj : j = .inr i
    · rw [qj, fpSet_same] at hj; cases hj
    · by_cases ql : l = .inr i
      · rw [ql, fpSet_same] at hl; cases hl
      · rw [fpSet_ne qj] at hj; rw [fpSet_ne ql] at hl; exact p.ap j l a hj hl
  · by_cases qj : j = .inr i
    · rw [qj, fpSet_same] at hj; cases hj
    · rw [fpSet_ne qj] at hj
      refine (hF a).mpr ⟨p.sub j a hj, fun l hl ha => qj ?_⟩
      rw [p.ap j l a hj ha]; exact of_decide_eq_true hl
/-- a shared slot is read -/
theorem R.read {i : Nat} {d : D} (h : R B T ρ σ H F) (e : ρ.vs[i]? = some (.sh d)) : ∃ v, σ[i]? = some (some v) ∧ R B (T ++ [(d, v)]) ρ σ H F := by
  obtain ⟨fp, p⟩ := h.pt
  obtain ⟨v, ev, r⟩ := (show RpV _ _ _ (.sh d) _ _ from p.sl i _ e)
  exact ⟨v, ev, h.push r⟩
def mkSv (d : D) : Sv := if shr d = true then .sh d else .ow d
/-- the value at the end of the pile goes to slot i -/
theorem R.store {i : Nat} {d : D} {v : V} (h : R B (T ++ [(d, v)]) ρ σ H F) (hf : B.free [i] = true) : R B T { ρ with vs := ρ.vs.set i (mkSv d) } (σ.set i (some v)) H F := by
  obtain ⟨fp, p⟩ := h.pt
  have r := p.tm T.length d v (by simp)
  refine { h with len := by simp [h.len], pin := fun j a q => (List.getElem?_set_ne (by rintro rfl; rw [Bs.free1 hf] at q; cases q)).trans (h.pin j a q), pt := ⟨fun j => if j = .inr i then fp (.inl T.length) else if j = .inl T.length then [] else fp j, ⟨fun j d' v' q => ?_, fun j s q => ?_, fun j => ?_, fun j l a hj hl => ?_, fun j a hj => ?_⟩⟩ }
  · have hj : j < T.length := (List.getElem?_eq_some_iff.mp q).1
    rw [if_neg (by intro z; cases z), if_neg (by intro z; cases z; omega)]
    exact p.tm j _ _ (by rw [List.getElem?_append_left hj]; exact q)
  · rcases getElem?_set' q with ⟨rfl, rfl⟩ | ⟨ne, q⟩
    · rw [if_pos rfl]
      have hi : i < σ.length := by
        rw [h.len]
        have := (List.getElem?_eq_some_iff.mp q).1
        simpa using this
      have ev : (σ.set i (some v))[i]? = some (some v) := by rw [List.getElem?_set_self hi]
      unfold mkSv
      split
      · rename_i hs
        have e := r.shr hs
        rw [e] at r
        exact ⟨v, ev, r⟩
      · exact ⟨v, ev, r⟩
    · rw [if_neg (by intro z; cases z; exact ne rfl), if_neg (by intro z; cases z), List.getElem?_set_ne ne]
      exact p.sl j s q
  · split
    · exact p.nd _
    · split
      · exact List.nodup_nil
      · exact p.nd j
  · by_cases j1 : j = .inr i
    · rw [if_pos j1] at hj
      by_cases l1 : l = .inr i
      · rw [j1, l1]
      · rw [if_neg l1] at hl
        by_cases l2 : l = .inl T.length
        · rw [if_pos l2] at hl; cases hl
        · rw [if_neg l2] at hl
          exact absurd (p.ap _ _ a hj hl).symm l2
    · rw [if_neg j1] at hj
      by_cases j2 : j = .inl T.length
      · rw [if_pos j2] at hj; cases hj
      · rw [if_neg j2] at hj
        by_cases l1 : l = .inr i
        · rw [if_pos l1] at hl
          exact absurd (p.ap _ _ a hj hl) j2
        · rw [if_neg l1] at hl
          by_cases l2 : l = .inl T.length
          · rw [if_pos l2] at hl; cases hl
          · rw [if_neg l2] at hl; exact p.ap _ _ a hj hl
  · split at hj
    · exact p.sub _ _ hj
    · split at hj
      · cases hj
      · exact p.sub _ _ hj
/-- slots forgotten -/
def fgt (vs : List Sv) : List Nat → List Sv
  | [] => vs
  | i :: is => fgt (vs.set i .no) is
theorem R.forget (h : R B T ρ σ H F) (is : List Nat) : R B T { ρ with vs := fgt ρ.vs is } σ H F := by
  induction is generalizing ρ with
  | nil => exact h
  | cons i is ih =>
    refine ih (ρ := { ρ with vs := ρ.vs.set i .no }) ?_
    obtain ⟨fp, p⟩ := h.pt
    refine { h with len := by simp [h.len], pt := ⟨fp, { p with sl := fun j s q => ?_ }⟩ }
    rcases getElem?_set' q with ⟨rfl, rfl⟩ | ⟨ne, q⟩
    · trivial
    · exact p.sl j s q
theorem StOk.dom {S : Gs} {st : RSt} (h : StOk S st H) : ∀ a ∈ sA S, H a ≠ none := by
  obtain ⟨rs, cl⟩ := S
  match rs, h with
  | none, _ => intro a ha; cases ha
  | some (s, c), ⟨_, h2, h3⟩ =>
    intro a ha
    rcases List.mem_cons.mp ha with rfl | ha
    · rw [h2]; simp
    · rcases List.mem_cons.mp ha with rfl | ha
      · rw [h3]; simp
      · cases ha
theorem same_upd {p : Addr} {o : HO} (hp : H p = none) : ∀ b u, H b = some u → upd H p o b = some u := fun b u e => by
  rw [upd_ne (ne_of_none e hp)]; exact e
theorem HLen.upd {p : Addr} {o : HO} (h : HLen H) (k : ∀ vs, o = .lst vs ∨ o = .tup vs → vs.length ≤ sizeLine) : HLen (upd H p o) := fun a vs e => by
  by_cases q : a = p
  · subst q
    rw [upd_same] at e
    exact k vs (e.imp Option.some.inj Option.some.inj)
  · rw [upd_ne q] at e; exact h a vs e
/-- what stands on the pile from n on, together -/
theorem Pt.collect {vs : List Sv} {fp : Ix → List Addr} : ∀ {ts : Tm} {T : Tm}, Pt B (T ++ ts) vs σ H F fp → ∃ G, RpL B.S H (hid (B.M ++ F) H) (ts.map (·.1)) (ts.map (·.2)) G ∧ G.Nodup ∧ ∀ a ∈ G, ∃ j, T.length ≤ j ∧ a ∈ fp (.inl j)
  | [], T, p => ⟨[], .nil, List.nodup_nil, fun _ z => nomatch z⟩
  | (d, v) :: ts, T, p => by
    have p' : Pt B ((T ++ [(d, v)]) ++ ts) vs σ H F fp := by rw [List.append_assoc]; exact p
    obtain ⟨G, r, nd, w⟩ := Pt.collect p'
    have h := p.tm T.length d v (by simp)
    refine ⟨fp (.inl T.length) ++ G, .cons h r, ?_, fun a ha => ?_⟩
    · refine List.nodup_append.mpr ⟨p.nd _, nd, fun a ha b hb e => ?_⟩
      subst e
      obtain ⟨j, hj, q⟩ := w a hb
      have := p.ap _ _ a ha q
      cases this
      simp at hj
      omega
    · rcases List.mem_append.mp ha with ha | ha
      · exact ⟨T.length, Nat.le_refl _, ha⟩
      · obtain ⟨j, hj, q⟩ := w a ha
        exact ⟨j, by simp at hj; omega, q⟩
def fpCut (fp : Ix → List Addr) (n : Nat) : Ix → List Addr
  | .inl i => if i < n then fp (.inl i) else []
  | .inr i => fp (.inr i)
theorem fpCut_lt {fp : Ix → List Addr} {n i : Nat} (h : i < n) : fpCut fp n (.inl i) = fp (.inl i) := if_pos h
/-- a new object takes what stands on the pile's end; kept: whether it's ours -/
theorem R.make {ts : Tm} {p : Addr} {o : HO} {d : D} {keep : Bool} (h : R B (T ++ ts) ρ σ H F) (hp : H p = none) (ho : ∀ vs, o = .lst vs ∨ o = .tup vs → vs.length ≤ sizeLine)
    (mk : ∀ {H' Hs' : Hp} {G : List Addr}, H' p = some o → (keep = false → Hs' p = some o) → RpL B.S H' Hs' (ts.map (·.1)) (ts.map (·.2)) G → Rp B.S H' Hs' d (.ref p) (if keep = true then p :: G else G)) :
    R B (T ++ [(d, .ref p)]) ρ σ (upd H p o) (if keep = true then p :: F else F) := by
  have k := same_upd (o := o) hp
  have h1 := h.grow k (h.hl.upd ho)
  obtain ⟨fp, q⟩ := h1.pt
  obtain ⟨G, r, nd, w⟩ := q.collect
  have hpM : p ∉ B.M := fun z => h.md p z hp
  have hpF : p ∉ F := fun z => h.own p z hp
  have hsub : ∀ a ∈ G, a ∈ F := fun a ha => let ⟨j, _, e⟩ := w a ha; q.sub _ a e
  have hm : ∀ a o', hid (B.M ++ F) (upd H p o) a = some o' → (keep = true → a ≠ p) → hid (B.M ++ (if keep = true then p :: F else F)) (upd H p o) a = some o' := fun a o' e ne => by
    obtain ⟨n, e⟩ := hid_some e
    refine hid_of e fun m => n ?_
    rcases List.mem_append.mp m with m | m
    · exact List.mem_append_left _ m
    · split at m
      · rcases List.mem_cons.mp m with m | m
        · exact absurd m (ne (by assumption))
        · exact List.mem_append_right _ m
      · exact List.mem_append_right _ m
  -- the old reps never read p
  obtain ⟨fp0, q0⟩ := h.pt
  obtain ⟨G0, r0, nd0, w0⟩ := q0.collect
  have hm0 : ∀ a o', hid (B.M ++ F) H a = some o' → hid (B.M ++ (if keep = true then p :: F else F)) (upd H p o) a = some o' := fun a o' e => by
    have e2 := hid_mono k a o' e
    exact hm a o' e2 fun _ z => by
      subst z
      rw [(hid_some e).2] at hp; cases hp
  have rG : RpL B.S (upd H p o) (hid (B.M ++ (if keep = true then p :: F else F)) (upd H p o)) (ts.map (·.1)) (ts.map (·.2)) G0 := r0.mono (fun a _ => k a) hm0
  have hsub0 : ∀ a ∈ G0, a ∈ F := fun a ha => let ⟨j, _, e⟩ := w0 a ha; q0.sub _ a e
  have new := mk (Hs' := hid (B.M ++ (if keep = true then p :: F else F)) (upd H p o)) upd_same (fun hk => by
    refine hid_of upd_same fun m => ?_
    rw [hk, if_neg (by simp)] at m
    rcases List.mem_append.mp m with m | m
    · exact hpM m
    · exact hpF m) rG
  have hn0 : (if keep = true then p :: G0 else G0).Nodup := by
    split
    · exact List.nodup_cons.mpr ⟨fun z => hpF (hsub0 p z), nd0⟩
    · exact nd0
  have memN : ∀ a, a ∈ (if keep = true then p :: G0 else G0) → (a = p ∧ keep = true) ∨ a ∈ G0 := fun a ha => by
    split at ha
    · rcases List.mem_cons.mp ha with e | e
      · exact .inl ⟨e, by assumption⟩
      · exact .inr e
    · exact .inr ha
  have memF : ∀ a, a ∈ (if keep = true then p :: F else F) → (a = p ∧ keep = true) ∨ a ∈ F := fun a ha => by
    split at ha
    · rcases List.mem_cons.mp ha with e | e
      · exact .inl ⟨e, by assumption⟩
      · exact .inr e
    · exact .inr ha
  have toF : ∀ a, a ∈ F → a ∈ (if keep = true then p :: F else F) := fun a ha => by
    split
    · exact List.mem_cons_of_mem _ ha
    · exact ha
  have key : ∀ i a, a ∈ fpSet (fpCut fp0 T.length) (.inl T.length) (if keep = true then p :: G0 else G0) i →
      (i = .inl T.length ∧ ((a = p) ∨ ∃ j, T.length ≤ j ∧ a ∈ fp0 (.inl j))) ∨ (i ≠ .inl T.length ∧ a ∈ fp0 i ∧ ∀ j, i = .inl j → j < T.length) := by
    intro i a ha
    by_cases q : i = .inl T.length
    · rw [q, fpSet_same] at ha
      refine .inl ⟨q, ?_⟩
      rcases memN a ha with ⟨z, _⟩ | z
      · exact .inl z
      · exact .inr (w0 a z)
    · rw [fpSet_ne q] at ha
      refine .inr ⟨q, ?_⟩
      cases i with
      | inl i =>
        unfold fpCut at ha
        dsimp only at ha
        split at ha
        · exact ⟨ha, fun j e => by cases e; assumption⟩
        · cases ha
      | inr i => exact ⟨ha, fun j e => by cases e⟩
  refine { len := h.len, pt := ⟨fpSet (fpCut fp0 T.length) (.inl T.length) (if keep = true then p :: G0 else G0), ⟨fun j d' v' e => ?_, fun i s e => ?_, fun i => ?_, fun i j a hi hj => ?_, fun i a hi => ?_⟩⟩, dj := fun a ha z => ?_, sM := h.sM, md := h1.md, st := h1.st, ext := h1.ext, new := fun a ha => ?_, hl := h1.hl, own := fun a ha => ?_, pin := h.pin }
  · rcases last_get e with ⟨hj, e⟩ | ⟨ej, e⟩
    · rw [fpSet_ne (by intro z; cases z; exact Nat.lt_irrefl _ hj), fpCut_lt hj]
      exact (q0.tm j _ _ (by rw [List.getElem?_append_left hj]; exact e)).mono (fun a _ => k a) hm0
    · cases e
      rw [ej, fpSet_same]
      exact new
  · rw [fpSet_ne (by intro z; cases z)]
    exact (q0.sl i s e).mono (fun a _ => k a) hm0
  · by_cases q : i = .inl T.length
    · rw [q, fpSet_same]; exact hn0
    · rw [fpSet_ne q]
      cases i with
      | inl i =>
        unfold fpCut
        dsimp only
        split
        · exact q0.nd _
        · exact List.nodup_nil
      | inr i => exact q0.nd _
  · rcases key i a hi with ⟨ei, ki⟩ | ⟨ei, ki, li⟩
    · rcases key j a hj with ⟨ej, kj⟩ | ⟨ej, kj, lj⟩
      · rw [ei, ej]
      · rcases ki with e | ⟨l, hl, e⟩
        · exact absurd (e ▸ q0.sub _ _ kj) hpF
        · have := q0.ap _ _ a kj e
          have := lj l this
          omega
    · rcases key j a hj with ⟨ej, kj⟩ | ⟨ej, kj, lj⟩
      · rcases kj with e | ⟨l, hl, e⟩
        · exact absurd (e ▸ q0.sub _ _ ki) hpF
        · have := q0.ap _ _ a ki e
          have := li l this
          omega
      · exact q0.ap _ _ a ki kj
  · rcases key i a hi with ⟨ei, ki⟩ | ⟨ei, ki, li⟩
    · rw [ei, fpSet_same] at hi
      rcases memN a hi with ⟨e, hk⟩ | z
      · rw [if_pos hk, e]; exact List.mem_cons_self
      · exact toF a (hsub0 a z)
    · exact toF a (q0.sub _ a ki)
  · rcases memF a z with ⟨rfl, _⟩ | z
    · exact hpM ha
    · exact h.dj a ha z
  · rcases memF a ha with ⟨rfl, _⟩ | z
    · cases e : B.H0 a with
      | none => rfl
      | some o' =>
        by_cases hs : a ∈ sA B.S
        · exact absurd (h.sM a hs) hpM
        · rw [h.ext a o' e hs] at hp; cases hp
    · exact h.new a z
  · rcases memF a ha with ⟨rfl, _⟩ | z
    · rw [upd_same]; simp
    · exact h1.own a z
theorem R.mkLst {ts : Tm} {p : Addr} (h : R B (T ++ ts) ρ σ H F) (hp : H p = none) (hz : ts.length ≤ sizeLine) : R B (T ++ [(.lst true (ts.map (·.1)), .ref p)]) ρ σ (upd H p (.lst (ts.map (·.2)))) (p :: F) := by
  have := R.make (keep := true) (o := .lst (ts.map (·.2))) (d := .lst true (ts.map (·.1))) h hp (by intro vs e; rcases e with e | e <;> cases e; simpa using hz) fun e1 _ r => by rw [if_pos rfl]; exact .lstO e1 r
  rw [if_pos rfl] at this; exact this
theorem R.mkTup {ts : Tm} {p : Addr} (h : R B (T ++ ts) ρ σ H F) (hp : H p = none) (hz : ts.length ≤ sizeLine) : R B (T ++ [(.tup (ts.map (·.1)), .ref p)]) ρ σ (upd H p (.tup (ts.map (·.2)))) F := by
  have := R.make (keep := false) (o := .tup (ts.map (·.2))) (d := .tup (ts.map (·.1))) h hp (by intro vs e; rcases e with e | e <;> cases e; simpa using hz) fun e1 e2 r => by rw [if_neg (by simp)]; exact .tup (e2 rfl) r
  rw [if_neg (by simp)] at this; exact this
end
end Fw

/- part Fw2 -/
namespace Fw
open PySem PySem.Spec PyProof.Rows L2
section
variable {B : Bs} {T T' : Tm} {ρ : En} {σ : L2.St} {H H' : Hp} {F : List Addr}

/-! ### an own object is changed -/
theorem hid_upd {M : List Addr} {a : Addr} {o : HO} (h : a ∈ M) : hid M (upd H a o) = hid M H := by
  funext b
  unfold hid
  split
  · rfl
  · rw [upd_ne (by rintro rfl; exact absurd h (by assumption))]
theorem R.mut {ts : Tm} {i : Nat} {d d' : D} {a : Addr} {o : HO} (h : R B (T ++ ts) ρ σ H F) (e : ρ.vs[i]? = some (.ow d)) (ev : σ[i]? = some (some (.ref a)))
    (mk : ∀ {Hs : Hp} {G Gt : List Addr}, (∀ b o, Hs b = some o → H b = some o) → Rp B.S H Hs d (.ref a) G → RpL B.S H Hs (ts.map (·.1)) (ts.map (·.2)) Gt → G.Nodup → Gt.Nodup → (∀ x, x ∈ G → x ∉ Gt) →
      ∃ G', (∀ x ∈ G', x ∈ G ∨ x ∈ Gt) ∧ G'.Nodup ∧ a ∈ G ∧ ∀ {H' : Hp}, H' a = some o → (∀ b u, b ≠ a → H b = some u → H' b = some u) → Rp B.S H' Hs d' (.ref a) G')
    (ho : ∀ vs, o = .lst vs ∨ o = .tup vs → vs.length ≤ sizeLine) :
    R B T { ρ with vs := ρ.vs.set i (.ow d') } σ (upd H a o) F := by
  obtain ⟨fp, p⟩ := h.pt
  obtain ⟨v, ev', r⟩ := (show RpV _ _ _ (.ow d) _ _ from p.sl i _ e)
  rw [ev] at ev'; cases ev'
  obtain ⟨Gt, rt, ndt, wt⟩ := p.collect
  have cross : ∀ x, x ∈ fp (.inr i) → x ∉ Gt := fun x hx hm => by
    obtain ⟨j, _, q⟩ := wt x hm
    have := p.ap _ _ x hx q
    cases this
  obtain ⟨G', hG', nd', haG, mk⟩ := mk (fun _ _ z => (hid_some z).2) r rt (p.nd _) ndt cross
  have haF : a ∈ F := p.sub _ _ haG
  have hh : hid (B.M ++ F) (upd H a o) = hid (B.M ++ F) H := hid_upd (List.mem_append_right _ haF)
  have ne : ∀ b u, b ≠ a → H b = some u → upd H a o b = some u := fun b u n q => by rw [upd_ne n]; exact q
  have haM : a ∉ B.M := fun z => h.dj a z haF
  have hlt : ∀ j, j < T.length → ∀ x ∈ fp (.inl j), x ≠ a := fun j _ x hx z => by
    subst z
    have := p.ap _ _ x hx haG
    cases this
  have key : ∀ j x, x ∈ fpSet (fpCut fp T.length) (.inr i) G' j → (j = .inr i ∧ (x ∈ fp (.inr i) ∨ ∃ l, T.length ≤ l ∧ x ∈ fp (.inl l))) ∨ (j ≠ .inr i ∧ x ∈ fp j ∧ ∀ l, j = .inl l → l < T.length) := by
    intro j x hx
    by_cases q : j = .inr i
    · rw [q, fpSet_same] at hx
      refine .inl ⟨q, ?_⟩
      rcases hG' x hx with z | z
      · exact .inl z
      · exact .inr (wt x z)
    · rw [fpSet_ne q] at hx
      refine .inr ⟨q, ?_⟩
      cases j with
      | inl j =>
        unfold fpCut at hx
        dsimp only at hx
        split at hx
        · exact ⟨hx, fun l e => by cases e; assumption⟩
        · cases hx
      | inr j => exact ⟨hx, fun l e => by cases e⟩
  refine { h with len := by simp [h.len], pt := ⟨fpSet (fpCut fp T.length) (.inr i) G', ⟨fun j d1 v1 q => ?_, fun j s q => ?_, fun j => ?_, fun j l x hj hl => ?_, fun j x hj => ?_⟩⟩, md := fun b hb => ?_, st := h.st.mono fun b hb u q => ?_, ext := fun b u q n => ?_, hl := h.hl.upd ho, own := fun b hb => ?_ }
  · have hj : j < T.length := (List.getElem?_eq_some_iff.mp q).1
    rw [fpSet_ne (by intro z; cases z), fpCut_lt hj, hh]
    exact (p.tm j _ _ (by rw [List.getElem?_append_left hj]; exact q)).mono (fun x hx u z => ne x u (hlt j hj x hx) z) fun _ _ z => z
  · rw [hh]
    rcases getElem?_set' q with ⟨rfl, rfl⟩ | ⟨nj, q⟩
    · rw [fpSet_same]
      exact ⟨_, ev, mk upd_same ne⟩
    · rw [fpSet_ne (by intro z; cases z; exact nj rfl)]
      refine (p.sl j s q).mono (fun x hx u z => ne x u ?_ z) fun _ _ z => z
      rintro rfl
      have := p.ap _ _ x hx haG
      cases this
      exact nj rfl
  · by_cases q : j = .inr i
    · rw [q, fpSet_same]; exact nd'
    · rw [fpSet_ne q]
      cases j with
      | inl j =>
        unfold fpCut
        dsimp only
        split
        · exact p.nd _
        · exact List.nodup_nil
      | inr j => exact p.nd _
  · rcases key j x hj with ⟨ej, kj⟩ | ⟨ej, kj, lj⟩
    · rcases key l x hl with ⟨el, kl⟩ | ⟨el, kl, ll⟩
      · rw [ej, el]
      · rcases kj with z | ⟨m, hm, z⟩
        · exact absurd (p.ap _ _ x z kl).symm el
        · have := p.ap _ _ x kl z
          have := ll m this
          omega
    · rcases key l x hl with ⟨el, kl⟩ | ⟨el, kl, ll⟩
      · rcases kl with z | ⟨m, hm, z⟩
        · exact absurd (p.ap _ _ x kj z) ej
        · have := p.ap _ _ x kj z
          have := lj m this
          omega
      · exact p.ap _ _ x kj kl
  · rcases key j x hj with ⟨ej, kj⟩ | ⟨ej, kj, lj⟩
    · rcases kj with z | ⟨m, hm, z⟩
      · exact p.sub _ _ z
      · exact p.sub _ _ z
    · exact p.sub _ _ kj
  · by_cases q : b = a
    · rw [q, upd_same]; simp
    · rw [upd_ne q]; exact h.md b hb
  · rw [upd_ne (by rintro rfl; exact haM (h.sM b hb))]; exact q
  · rw [upd_ne (by rintro rfl; rw [h.new b haF] at q; cases q)]; exact h.ext b u q n
  · by_cases q : b = a
    · rw [q, upd_same]; simp
    · rw [upd_ne q]; exact h.own b hb

/-! ### behind a call -/
theorem R.after {st' : RSt} {d : D} {v : V} {Fr : List Addr} (h : R B T ρ σ H F) (ext : ∀ a o, H a = some o → a ∉ sA B.S → H' a = some o) (stok : StOk B.S st' H') (hl : HLen H')
    (fresh : ∀ a ∈ Fr, H a = none) (nd : Fr.Nodup) (own : ∀ a ∈ Fr, H' a ≠ none) (r : Rp B.S H' (hid (B.M ++ (F ++ Fr)) H') d v Fr) : R B (T ++ [(d, v)]) { ρ with st := st' } σ H' (F ++ Fr) := by
  obtain ⟨fp, p⟩ := h.pt
  have frF : ∀ a ∈ Fr, a ∉ F := fun a ha z => h.own a z (fresh a ha)
  have frM : ∀ a ∈ Fr, a ∉ B.M := fun a ha z => h.md a z (fresh a ha)
  have up : ∀ a o, hid (B.M ++ F) H a = some o → hid (B.M ++ (F ++ Fr)) H' a = some o := fun a o e => by
    obtain ⟨n, e⟩ := hid_some e
    have nM : a ∉ B.M := fun z => n (List.mem_append_left _ z)
    refine hid_of (ext a o e fun z => nM (h.sM a z)) fun m => n ?_
    rcases List.mem_append.mp m with m | m
    · exact List.mem_append_left _ m
    · rcases List.mem_append.mp m with m | m
      · exact List.mem_append_right _ m
      · rw [fresh a m] at e; cases e
  have kF : ∀ a, a ∈ F → ∀ o, H a = some o → H' a = some o := fun a ha o e => ext a o e fun z => h.dj a (h.sM a z) ha
  have memN : ∀ i a, a ∈ fpSet fp (.inl T.length) Fr i → (i = .inl T.length ∧ a ∈ Fr) ∨ (i ≠ .inl T.length ∧ a ∈ fp i) := fun i a ha => by
    by_cases q : i = .inl T.length
    · rw [q, fpSet_same] at ha; exact .inl ⟨q, ha⟩
    · rw [fpSet_ne q] at ha; exact .inr ⟨q, ha⟩
  refine { h with pt := ⟨fpSet fp (.inl T.length) Fr, ⟨fun j d' v' e => ?_, fun i s e => ?_, fun i => ?_, fun i j a hi hj => ?_, fun i a hi => ?_⟩⟩, dj := fun a ha z => ?_, md := fun a ha z => ?_, st := stok, ext := fun a o e n => ext a o (h.ext a o e n) n, new := fun a ha => ?_, hl := hl, own := fun a ha => ?_ }
  · rcases last_get e with ⟨hj, e⟩ | ⟨ej, e⟩
    · rw [fpSet_ne (by intro z; cases z; exact Nat.lt_irrefl _ hj)]
      exact (p.tm j _ _ e).mono (fun a ha => kF a (p.sub _ a ha)) up
    · cases e
      rw [ej, fpSet_same]; exact r
  · rw [fpSet_ne (by intro z; cases z)]
    exact (p.sl i s e).mono (fun a ha => kF a (p.sub _ a ha)) up
  · by_cases q : i = .inl T.length
    · rw [q, fpSet_same]; exact nd
    · rw [fpSet_ne q]; exact p.nd i
  · rcases memN i a hi with ⟨ei, ki⟩ | ⟨ei, ki⟩ <;> rcases memN j a hj with ⟨ej, kj⟩ | ⟨ej, kj⟩
    · rw [ei, ej]
    · exact absurd (p.sub _ _ kj) (frF a ki)
    · exact absurd (p.sub _ _ ki) (frF a kj)
    · exact p.ap _ _ a ki kj
  · rcases memN i a hi with ⟨ei, ki⟩ | ⟨ei, ki⟩
    · exact List.mem_append_right _ ki
    · exact List.mem_append_left _ (p.sub _ _ ki)
  · rcases List.mem_append.mp z with z | z
    · exact h.dj a ha z
    · exact frM a z ha
  · by_cases q : a ∈ sA B.S
    · exact stok.dom a q z
    · cases e : H a with
      | none => exact h.md a ha e
      | some o => rw [ext a o e q] at z; cases z
  · rcases List.mem_append.mp ha with z | z
    · exact h.new a z
    · cases e : B.H0 a with
      | none => rfl
      | some o =>
        by_cases q : a ∈ sA B.S
        · exact absurd (h.sM a q) (frM a z)
        · have := h.ext a o e q
          rw [fresh a z] at this; cases this
  · rcases List.mem_append.mp ha with z | z
    · intro q
      cases e : H a with
      | none => exact h.own a z e
      | some o => rw [kF a z o e] at q; cases q
    · exact own a z

/-! ### operands -/
inductive Opd where
  | val (f : En → Out D)
  | var (i : Nat)
def Sv.get? : Sv → Option D
  | .no => none
  | .sh d => some d
  | .ow d => some d
def frz1 : Sv → Sv
  | .no => .no
  | .sh d => .sh d
  | .ow d => .sh (frz d)
def frzS (is : List Nat) : Nat → List Sv → List Sv
  | _, [] => []
  | n, s :: vs => (if is.contains n = true then frz1 s else s) :: frzS is (n + 1) vs
theorem frzS_get (is : List Nat) : ∀ (vs : List Sv) (n i : Nat), (frzS is n vs)[i]? = vs[i]?.map fun s => if is.contains (n + i) = true then frz1 s else s
  | [], n, i => by simp [frzS]
  | s :: vs, n, 0 => by simp [frzS]
  | s :: vs, n, i + 1 => by
    rw [frzS, List.getElem?_cons_succ, frzS_get is vs (n + 1) i, List.getElem?_cons_succ]
    rw [show n + 1 + i = n + (i + 1) by omega]
theorem frzS_len (is : List Nat) : ∀ (vs : List Sv) (n : Nat), (frzS is n vs).length = vs.length
  | [], n => rfl
  | s :: vs, n => by rw [frzS, List.length_cons, frzS_len is vs, List.length_cons]
def fz (d : D) : D := if shr d = true then d else frz d
/-- which operand is what: the temporaries ts, the values -/
inductive OpV (ρ : En) (σ : L2.St) : List Opd → Tm → List D → List V → Prop
  | nil : OpV ρ σ [] [] [] []
  | val {f : En → Out D} {ps : List Opd} {ts : Tm} {ds : List D} {vs : List V} {d : D} {v : V} (h : OpV ρ σ ps ts ds vs) : OpV ρ σ (.val f :: ps) ((d, v) :: ts) (d :: ds) (v :: vs)
  | var {i : Nat} {ps : List Opd} {ts : Tm} {ds : List D} {vs : List V} {s : Sv} {d : D} {v : V} (e : ρ.vs[i]? = some s) (g : s.get? = some d) (ev : σ[i]? = some (some v)) (h : OpV ρ σ ps ts ds vs) : OpV ρ σ (.var i :: ps) ts (d :: ds) (v :: vs)
/-- all operands, read where they stand -/
theorem OpV.at {ps : List Opd} {ts : Tm} {ds : List D} {vs : List V} (h : R B (T ++ ts) ρ σ H F) (o : OpV ρ σ ps ts ds vs) : ∀ (k : Nat) (d : D), ds[k]? = some d → ∃ v G, vs[k]? = some v ∧ RpB B H F d v G := by
  obtain ⟨fp, p⟩ := h.pt
  clear h
  induction o generalizing T with
  | nil => intro k d e; simp at e
  | @val f ps ts ds vs d v o ih =>
    intro k d' e
    cases k with
    | zero =>
      simp at e; subst e
      exact ⟨v, _, rfl, p.tm T.length d v (by simp), p.sub _⟩
    | succ k =>
      exact ih (T := T ++ [(d, v)]) (by rw [List.append_assoc]; exact p) k d' (by simpa using e)
  | @var i ps ts ds vs s d v es g ev o ih =>
    intro k d' e
    cases k with
    | zero =>
      simp at e; subst e
      have r := p.sl i s es
      cases s with
      | no => cases g
      | sh d1 =>
        cases g
        obtain ⟨v', e', r⟩ := r
        rw [ev] at e'; cases e'
        exact ⟨v, [], rfl, r, fun _ z => nomatch z⟩
      | ow d1 =>
        cases g
        obtain ⟨v', e', r⟩ := r
        rw [ev] at e'; cases e'
        exact ⟨v, _, rfl, r, p.sub _⟩
    | succ k => exact ih p k d' (by simpa using e)
theorem OpV.len {ps : List Opd} {ts : Tm} {ds : List D} {vs : List V} (o : OpV ρ σ ps ts ds vs) : ds.length = vs.length := by
  induction o with
  | nil => rfl
  | val _ ih => simp [ih]
  | var _ _ _ _ ih => simp [ih]
def isVar : List Opd → List Nat
  | [] => []
  | .val _ :: ps => isVar ps
  | .var i :: ps => i :: isVar ps
/-- the operands frozen -/
theorem R.shareOps {ps : List Opd} {ts : Tm} {ds : List D} {vs : List V} (h : R B (T ++ ts) ρ σ H F) (o : OpV ρ σ ps ts ds vs) (is : List Nat) (hi : ∀ i ∈ isVar ps, i ∈ is) :
    ∃ F', R B T { ρ with vs := frzS is 0 ρ.vs } σ H F' ∧ RpL B.S H (hid (B.M ++ F') H) (ds.map fz) vs [] ∧ ∀ a ∈ F', a ∈ F := by
  obtain ⟨fp, p⟩ := h.pt
  let q : Ix → Bool := fun j => match j with | .inl j => decide (T.length ≤ j) | .inr i => is.contains i
  obtain ⟨F', hF, m, k⟩ := h.thaw p q
  have fzr : ∀ {d : D} {v : V} {ix : Ix}, q ix = true → Rp B.S H (hid (B.M ++ F) H) d v (fp ix) → Rp B.S H (hid (B.M ++ F') H) (fz d) v [] := fun {d v ix} hq r => by
    unfold fz
    split
    · rename_i hs
      have e := r.shr hs
      rw [e] at r
      exact r.mono (fun _ z => nomatch z) m
    · exact r.frz (k ix hq) m
  refine ⟨F', { h with len := by rw [frzS_len]; exact h.len, pt := ⟨fun j => if q j = true then [] else fp j, ⟨fun j d v e => ?_, fun i s e => ?_, fun j => ?_, fun j l a hj hl => ?_, fun j a hj => ?_⟩⟩, dj := fun a ha z => h.dj a ha ((hF a).mp z).1, new := fun a ha => h.new a ((hF a).mp ha).1, own := fun a ha => h.own a ((hF a).mp ha).1 }, ?_, fun a ha => ((hF a).mp ha).1⟩
  · have hj : j < T.length := (List.getElem?_eq_some_iff.mp e).1
    rw [if_neg (by show ¬ decide (T.length ≤ j) = true; simp; omega)]
    exact (p.tm j d v (by rw [List.getElem?_append_left hj]; exact e)).mono (fun _ _ _ z => z) m
  · rw [frzS_get] at e
    cases e1 : ρ.vs[i]? with
    | none => rw [e1] at e; cases e
    | some s0 =>
      rw [e1] at e
      simp only [Option.map_some, Nat.zero_add, Option.some.injEq] at e
      have r := p.sl i s0 e1
      by_cases hq : is.contains i = true
      · rw [if_pos hq] at e
        subst e
        rw [if_pos (show q (.inr i) = true from hq)]
        cases s0 with
        | no => trivial
        | sh d => exact r.mono (fun _ _ _ z => z) m
        | ow d =>
          obtain ⟨v, ev, r⟩ := r
          exact ⟨v, ev, r.frz (k (.inr i) hq) m⟩
      · rw [if_neg hq] at e
        subst e
        rw [if_neg (show ¬ q (.inr i) = true from hq)]
        exact r.mono (fun _ _ _ z => z) m
  · split
    · exact List.nodup_nil
    · exact p.nd j
  · split at hj
    · cases hj
    · split at hl
      · cases hl
      · exact p.ap _ _ a hj hl
  · split at hj
    · cases hj
    · rename_i hq
      refine (hF a).mpr ⟨p.sub j a hj, fun l hl ha => hq ?_⟩
      rw [p.ap j l a hj ha]; exact hl
  · clear h
    have gen : ∀ (T0 : Tm), T.length ≤ T0.length → Pt B (T0 ++ ts) ρ.vs σ H F fp → RpL B.S H (hid (B.M ++ F') H) (ds.map fz) vs [] := by
      intro T0 hT0 p0
      clear p
      induction o generalizing T0 with
      | nil => exact .nil
      | @val f ps ts ds vs d v o ih =>
        refine .cons0 (fzr (ix := .inl T0.length) (by show decide _ = true; simpa using hT0) (p0.tm T0.length d v (by simp))) (ih (fun i hi' => hi i hi') (T0 ++ [(d, v)]) (by simp; omega) (by rw [List.append_assoc]; exact p0))
      | @var i ps ts ds vs s d v es g ev o ih =>
        refine .cons0 ?_ (ih (fun i hi' => hi i (List.mem_cons_of_mem _ hi')) T0 hT0 p0)
        have r := p0.sl i s es
        cases s with
        | no => cases g
        | sh d1 =>
          cases g
          obtain ⟨v', e', r⟩ := r
          rw [ev] at e'; cases e'
          unfold fz
          split
          · exact r.mono (fun _ z => nomatch z) m
          · exact r.frz (fun _ z => nomatch z) m
        | ow d1 =>
          cases g
          obtain ⟨v', e', r⟩ := r
          rw [ev] at e'; cases e'
          refine fzr (ix := .inr i) ?_ r
          show is.contains i = true
          simpa using hi i (List.mem_cons_self)
    exact gen T (Nat.le_refl _) p
end
end Fw

/- part Fw3 -/
namespace Fw
open PySem PySem.Spec PyProof.Rows L2

/-! ### what an expression, a test, a statement gives -/
def XR (S : Gs) (x : Exc) (cls : Value) (d : Option Addr) (H : Hp) : Prop := cls = .ref (S.cl x.cls) ∧ S.cl x.cls ≠ 0 ∧ match d with
  | none => x.fs = []
  | some a => ∃ fvs, H a = some (.xd fvs) ∧ fvs.map (·.1) = x.fs.map (·.1) ∧ (x.fs.map fun p => scV p.2) = fvs.map fun p => some p.2
theorem XR.mono {S : Gs} {x : Exc} {cls : Value} {d : Option Addr} {H H' : Hp} (h : XR S x cls d H) (k : ∀ a o, H a = some o → H' a = some o) : XR S x cls d H' := by
  refine ⟨h.1, h.2.1, ?_⟩
  have := h.2.2
  cases d with
  | none => exact this
  | some a =>
    obtain ⟨fvs, e, r⟩ := this
    exact ⟨fvs, k _ _ e, r⟩
def exQ (B : Bs) (T : Tm) (σ : L2.St) : Exc → En → Prop := fun x ρ => ∀ cls d H F, XR B.S x cls d (hid (B.M ++ F) H) → R B T ρ σ H F → B.W cls d σ H
inductive Fl where
  | nx | rt (d : D) | bk | ct
def cE (B : Bs) (f : En → Out D) : TE := fun σ H Q => ∃ T ρ F, R B T ρ σ H F ∧ (f ρ).wp (fun d ρ' => ∀ v H' F', R B (T ++ [(d, v)]) ρ' σ H' F' → Q v H') (exQ B T σ)
def cT (B : Bs) (f : En → Out Bool) : TT := fun σ H Q => ∃ T ρ F, R B T ρ σ H F ∧ (f ρ).wp (fun b ρ' => ∀ H' F', R B T ρ' σ H' F' → Q b H') (exQ B T σ)
def slQ (B : Bs) (T : Tm) (D' : Ends) : Fl → En → Prop := fun fl ρ => match fl with
  | .nx => ∀ σ H F, R B T ρ σ H F → D'.nx σ H
  | .rt d => ∀ v σ H F, R B (T ++ [(d, v)]) ρ σ H F → D'.rt v H
  | .bk => ∀ σ H F, R B T ρ σ H F → D'.bk σ H
  | .ct => ∀ σ H F, R B T ρ σ H F → D'.ct σ H
def sxQ (B : Bs) (T : Tm) : Exc → En → Prop := fun x ρ => ∀ cls d σ H F, XR B.S x cls d (hid (B.M ++ F) H) → R B T ρ σ H F → B.W cls d σ H
def cS (B : Bs) (f : En → Out Fl) : TS := fun D' σ H => ∃ T ρ F, R B T ρ σ H F ∧ (f ρ).wp (slQ B T D') (sxQ B T)
/-- operands: the argument list gives the values vs -/
def cA (B : Bs) (ps : List Opd) (g : En → Out (List D)) : TA := fun σ H Q => ∃ T ρ F, R B T ρ σ H F ∧ (g ρ).wp (fun ds ρ' => ∀ vs H' F' ts, R B (T ++ ts) ρ' σ H' F' → OpV ρ' σ ps ts ds vs → Q vs H') (exQ B T σ)

section
variable {X : Cx} {B : Bs}
theorem _root_.L2.PE.imp {e : Expr} {t t' : TE} (h : PE X e t) (w : ∀ σ H Q, t' σ H Q → t σ H Q) : PE X e t' := ⟨fun pins s σ H Q I q => h.run pins s σ H Q I (w _ _ _ q)⟩
theorem _root_.L2.PT.imp {e : Expr} {t t' : TT} (h : PT X e t) (w : ∀ σ H Q, t' σ H Q → t σ H Q) : PT X e t' := ⟨fun pins s σ H Q I q => h.run pins s σ H Q I (w _ _ _ q)⟩
theorem _root_.L2.PA.imp {e : List Expr} {t t' : TA} (h : PA X e t) (w : ∀ σ H Q, t' σ H Q → t σ H Q) : PA X e t' := ⟨fun pos pins s σ H Q I q => h.run pos pins s σ H Q I (w _ _ _ q)⟩
theorem _root_.L2.PS.imp {e : Stmt} {t t' : TS} (h : PS X e t) (w : ∀ D' σ H, t' D' σ H → t D' σ H) : PS X e t' := ⟨fun pins s σ H D' I q => h.run pins s σ H D' I (w _ _ _ q)⟩
theorem _root_.L2.PSs.imp {e : List Stmt} {t t' : TS} (h : PSs X e t) (w : ∀ D' σ H, t' D' σ H → t D' σ H) : PSs X e t' := ⟨fun pins s σ H D' I q => h.run pins s σ H D' I (w _ _ _ q)⟩

/-- what stands between is dropped -/
theorem R.dropMid {T fr : Tm} {t : D × V} {ρ : En} {σ : L2.St} {H : Hp} {F : List Addr} (h : R B (T ++ fr ++ [t]) ρ σ H F) : R B (T ++ [t]) ρ σ H F := by
  obtain ⟨fp, p⟩ := h.pt
  refine { h with pt := ⟨fun j => match j with | .inl j => if j = T.length then fp (.inl (T ++ fr).length) else if j < T.length then fp (.inl j) else [] | .inr i => fp (.inr i), ⟨fun j d v e => ?_, fun i s e => p.sl i s e, fun j => ?_, fun j l a hj hl => ?_, fun j a hj => ?_⟩⟩ }
  · rcases last_get e with ⟨hj, e⟩ | ⟨ej, e⟩
    · show Rp _ _ _ _ _ (if j = T.length then _ else if j < T.length then _ else _)
      rw [if_neg (by omega), if_pos hj]
      exact p.tm j d v (by rw [List.append_assoc, List.getElem?_append_left hj]; exact e)
    · show Rp _ _ _ _ _ (if j = T.length then _ else if j < T.length then _ else _)
      rw [if_pos ej]
      exact p.tm _ d v (by rw [List.getElem?_append_right (Nat.le_refl _)]; simp [e])
  · cases j with
    | inr i => exact p.nd _
    | inl j =>
      dsimp only
      split
      · exact p.nd _
      · split
        · exact p.nd _
        · exact List.nodup_nil
  · have key : ∀ j a, a ∈ (match j with | .inl j => if j = T.length then fp (.inl (T ++ fr).length) else if j < T.length then fp (.inl j) else [] | .inr i => fp (.inr i) : List Addr) →
        (j = .inl T.length ∧ a ∈ fp (.inl (T ++ fr).length)) ∨ ((∀ l, j = .inl l → l < T.length) ∧ a ∈ fp j) := by
      intro j a ha
      cases j with
      | inr i => exact .inr ⟨(fun l z => by cases z), ha⟩
      | inl j =>
        dsimp only at ha
        split at ha
        · rename_i z; exact .inl ⟨(by rw [z]), ha⟩
        · split at ha
          · exact .inr ⟨(fun l z => by cases z; assumption), ha⟩
          · cases ha
    have hT : T.length ≤ (T ++ fr).length := by simp
    rcases key j a hj with ⟨ej, kj⟩ | ⟨ej, kj⟩ <;> rcases key l a hl with ⟨el, kl⟩ | ⟨el, kl⟩
    · rw [ej, el]
    · have := p.ap _ _ a kj kl
      have := el _ this.symm
      omega
    · have := p.ap _ _ a kl kj
      have := ej _ this.symm
      omega
    · exact p.ap _ _ a kj kl
  · cases j with
    | inr i => exact p.sub _ _ hj
    | inl j =>
      dsimp only at hj
      split at hj
      · exact p.sub _ _ hj
      · split at hj
        · exact p.sub _ _ hj
        · cases hj
/-! ### names and constants -/
def evVar (i : Nat) : En → Out D := fun ρ => match ρ.vs[i]? with
  | some (.sh d) => .ok d ρ
  | some (.ow d) => .ok (frz d) { ρ with vs := ρ.vs.set i (.sh (frz d)) }
  | _ => .no
theorem ev_var {e : Expr} {i : Nat} (h : PE X e (tVar i)) : PE X e (cE B (evVar i)) := by
  refine h.imp fun σ H Q ⟨T, ρ, F, r, q⟩ => ?_
  unfold evVar at q
  split at q
  · rename_i d e
    obtain ⟨v, ev, r'⟩ := r.read e
    exact ⟨v, ev, q _ _ _ r'⟩
  · rename_i d e
    obtain ⟨v, F', ev, r'⟩ := r.freeze e
    exact ⟨v, ev, q _ _ _ r'⟩
  · exact q.elim
def evC (d : D) : En → Out D := fun ρ => .ok d ρ
theorem ev_int {i j pos} : PE X (.Constant (.int i) j pos) (cE B (evC (.int i))) := pe_int.imp fun σ H Q ⟨T, ρ, F, r, q⟩ => q _ _ _ (r.push (.int i))
theorem ev_bl {i j pos} : PE X (.Constant (.bool i) j pos) (cE B (evC (.bl i))) := pe_bl.imp fun σ H Q ⟨T, ρ, F, r, q⟩ => q _ _ _ (r.push (.bl i))
theorem ev_non {j pos} : PE X (.Constant .none j pos) (cE B (evC .non)) := pe_non.imp fun σ H Q ⟨T, ρ, F, r, q⟩ => q _ _ _ (r.push .non)
theorem ev_str {x j pos} : PE X (.Constant (.str x) j pos) (cE B (evC (.str x))) := pe_str.imp fun σ H Q ⟨T, ρ, F, r, q⟩ => q _ _ _ (r.push (.str x))
/-- a module's constant: an int or a text -/
theorem ev_gint {x : Str} {i : Int} {t : Tok} {pos : Pos} (hg : Gl X x) (hm : X.mg x = some (.int i t)) (hd : (x == ("__debug__" : Str)) = false := by decide) : PE X (.Name x pos) (cE B (evC (.int i))) :=
  (pe_glob (v := .int i) hg hm ⟨_, rfl⟩ hd).imp fun σ H Q ⟨T, ρ, F, r, q⟩ => q _ _ _ (r.push (.int i))
theorem ev_gstr {x y : Str} {t : Tok} {pos : Pos} (hg : Gl X x) (hm : X.mg x = some (.str y t)) (hd : (x == ("__debug__" : Str)) = false := by decide) : PE X (.Name x pos) (cE B (evC (.str y))) :=
  (pe_glob (v := .str y) hg hm ⟨_, rfl⟩ hd).imp fun σ H Q ⟨T, ρ, F, r, q⟩ => q _ _ _ (r.push (.str y))
/-- an own slot is given away -/
def evMove (i : Nat) : En → Out D := fun ρ => match ρ.vs[i]? with
  | some (.sh d) => .ok d ρ
  | some (.ow d) => .ok d { ρ with vs := ρ.vs.set i .no }
  | _ => .no
theorem R.take {T : Tm} {ρ : En} {σ : L2.St} {H : Hp} {F : List Addr} {i : Nat} {d : D} (h : R B T ρ σ H F) (e : ρ.vs[i]? = some (.ow d)) : ∃ v, σ[i]? = some (some v) ∧ R B (T ++ [(d, v)]) { ρ with vs := ρ.vs.set i .no } σ H F := by
  obtain ⟨fp, p⟩ := h.pt
  obtain ⟨v, ev, r⟩ := (show RpV _ _ _ (.ow d) _ _ from p.sl i _ e)
  refine ⟨v, ev, { h with len := by simp [h.len], pt := ⟨fpSet (fpSet fp (.inl T.length) (fp (.inr i))) (.inr i) [], ⟨fun j d' v' q => ?_, fun j s q => ?_, fun j => ?_, fun j l a hj hl => ?_, fun j a hj => ?_⟩⟩ }⟩
  · rw [fpSet_ne (by intro z; cases z)]
    rcases last_get q with ⟨hj, q⟩ | ⟨ej, q⟩
    · rw [fpSet_ne (by intro z; cases z; exact Nat.lt_irrefl _ hj)]; exact p.tm j _ _ q
    · cases q; rw [ej, fpSet_same]; exact r
  · rcases getElem?_set' q with ⟨rfl, rfl⟩ | ⟨ne, q⟩
    · trivial
    · rw [fpSet_ne (by intro z; cases z; exact ne rfl), fpSet_ne (by intro z; cases z)]; exact p.sl j s q
  · by_cases q1 : j = .inr i
    · rw [q1, fpSet_same]; exact List.nodup_nil
    · rw [fpSet_ne q1]
      by_cases q2 : j = .inl T.length
      · rw [q2, fpSet_same]; exact p.nd _
      · rw [fpSet_ne q2]; exact p.nd _
  · have key : ∀ j a, a ∈ fpSet (fpSet fp (.inl T.length) (fp (.inr i))) (.inr i) [] j → j ≠ .inr i ∧ ((j = .inl T.length ∧ a ∈ fp (.inr i)) ∨ (j ≠ .inl T.length ∧ a ∈ fp j)) := fun j a ha => by
      by_cases q1 : j = .inr i
      · rw [q1, fpSet_same] at ha; cases ha
      · rw [fpSet_ne q1] at ha
        refine ⟨q1, ?_⟩
        by_cases q2 : j = .inl T.length
        · rw [q2, fpSet_same] at ha; exact .inl ⟨q2, ha⟩
        · rw [fpSet_ne q2] at ha; exact .inr ⟨q2, ha⟩
    obtain ⟨nj, kj⟩ := key j a hj
    obtain ⟨nl, kl⟩ := key l a hl
    rcases kj with ⟨ej, kj⟩ | ⟨ej, kj⟩ <;> rcases kl with ⟨el, kl⟩ | ⟨el, kl⟩
    · rw [ej, el]
    · exact absurd (p.ap _ _ a kj kl).symm nl
    · exact absurd (p.ap _ _ a kj kl) nj
    · exact p.ap _ _ a kj kl
  · by_cases q1 : j = .inr i
    · rw [q1, fpSet_same] at hj; cases hj
    · rw [fpSet_ne q1] at hj
      by_cases q2 : j = .inl T.length
      · rw [q2, fpSet_same] at hj; exact p.sub _ _ hj
      · rw [fpSet_ne q2] at hj; exact p.sub _ _ hj
theorem ev_move {e : Expr} {i : Nat} (h : PE X e (tVar i)) : PE X e (cE B (evMove i)) := by
  refine h.imp fun σ H Q ⟨T, ρ, F, r, q⟩ => ?_
  unfold evMove at q
  split at q
  · rename_i d e
    obtain ⟨v, ev, r'⟩ := r.read e
    exact ⟨v, ev, q _ _ _ r'⟩
  · rename_i d e
    obtain ⟨v, ev, r'⟩ := r.take e
    exact ⟨v, ev, q _ _ _ r'⟩
  · exact q.elim

theorem R.there {T : Tm} {ρ : En} {σ : L2.St} {H : Hp} {F : List Addr} {i : Nat} {s : Sv} {d : D} (h : R B T ρ σ H F) (e : ρ.vs[i]? = some s) (g : s.get? = some d) : ∃ v, σ[i]? = some (some v) := by
  obtain ⟨fp, p⟩ := h.pt
  have q := p.sl i _ e
  cases s with
  | no => cases g
  | sh d => exact ⟨q.choose, q.choose_spec.1⟩
  | ow d => exact ⟨q.choose, q.choose_spec.1⟩
/-! ### operands -/
def evOps : List Opd → En → Out (List D)
  | [], ρ => .ok [] ρ
  | .val f :: ps, ρ => (f ρ).bind fun d ρ1 => (evOps ps ρ1).bind fun ds ρ2 => .ok (d :: ds) ρ2
  | .var i :: ps, ρ => match ρ.vs[i]?.bind Sv.get? with
    | none => .no
    | some _ => (evOps ps ρ).bind fun ds ρ2 => match ρ2.vs[i]?.bind Sv.get? with
      | some d => .ok (d :: ds) ρ2
      | none => .no
def tOpd (B : Bs) : Opd → TE
  | .val f => cE B f
  | .var i => tVar i
def tOps (B : Bs) : List Opd → TA
  | [] => tNil
  | p :: ps => tCons (tOpd B p) (tOps B ps)
theorem ops_run {ps : List Opd} : ∀ {T : Tm} {ρ : En} {σ : L2.St} {H : Hp} {F : List Addr} {K : List V → Hp → Prop}, R B T ρ σ H F →
    (evOps ps ρ).wp (fun ds ρ' => ∀ vs H' F' ts, R B (T ++ ts) ρ' σ H' F' → OpV ρ' σ ps ts ds vs → K vs H') (exQ B T σ) → tOps B ps σ H K := by
  induction ps with
  | nil => intro T ρ σ H F K r q; exact q [] H F [] (by simpa using r) .nil
  | cons p ps ih =>
    intro T ρ σ H F K r q
    cases p with
    | val f =>
      have q := Out.wp_bind q
      refine ⟨T, ρ, F, r, Out.wp_mono q (fun d ρ1 q v H1 F1 r1 => ?_) fun _ _ z => z⟩
      have q := Out.wp_bind q
      refine ih r1 (Out.wp_mono q (fun ds ρ2 q vs H2 F2 ts r2 o => ?_) fun x ρ2 z cls d H F xr r => ?_)
      · exact q (v :: vs) H2 F2 ((d, v) :: ts) (by rw [List.append_assoc] at r2; exact r2) (.val o)
      · exact z cls d H F xr r.drop
    | var i =>
      show ∃ v, σ[i]? = some (some v) ∧ tOps B ps σ H fun xs H2 => K (v :: xs) H2
      rw [evOps] at q
      split at q
      · exact q.elim
      · rename_i d0 e0
        obtain ⟨s0, es, eg⟩ := Option.bind_eq_some_iff.mp e0
        obtain ⟨v, ev⟩ := r.there es eg
        refine ⟨v, ev, ih r (Out.wp_mono (Out.wp_bind q) (fun ds ρ2 q vs H2 F2 ts r2 o => ?_) fun _ _ z => z)⟩
        split at q
        · rename_i d e2
          obtain ⟨s2, es2, eg2⟩ := Option.bind_eq_some_iff.mp e2
          exact q (v :: vs) H2 F2 ts r2 (.var es2 eg2 ev o)
        · exact q.elim
/-! ### operations upon operands -/
theorem bl_of {T : Tm} {ρ : En} {σ : L2.St} {H : Hp} {F : List Addr} {b : Bool} {v : V} (r : R B (T ++ [(.bl b, v)]) ρ σ H F) : v = .bl b := by
  obtain ⟨fp, p⟩ := r.pt
  have := p.tm T.length (.bl b) v (by simp)
  generalize fp (.inl T.length) = G at this
  cases this
  rfl

def evOp (ps : List Opd) (op : List D → Option D) : En → Out D := fun ρ => (evOps ps ρ).bind fun ds ρ' => match op ds with
  | some d => .ok d ρ'
  | none => .no
/-- the reading r gives what op says -/
def OpS (B : Bs) (r : List V → Hp → VK → Prop) (op : List D → Option D) : Prop := ∀ {T ts : Tm} {ρ : En} {σ : L2.St} {H : Hp} {F : List Addr} {ps : List Opd} {ds : List D} {vs : List V} {Q : VK} {d : D},
  R B (T ++ ts) ρ σ H F → OpV ρ σ ps ts ds vs → op ds = some d → (∀ v H' F', R B (T ++ [(d, v)]) ρ σ H' F' → Q v H') → r vs H Q
theorem op_run {ps : List Opd} {op : List D → Option D} {r : List V → Hp → VK → Prop} (hr : OpS B r op) {σ : L2.St} {H : Hp} {Q : VK} (h : cE B (evOp ps op) σ H Q) : tOps B ps σ H fun vs H' => r vs H' Q := by
  obtain ⟨T, ρ, F, rr, q⟩ := h
  refine ops_run rr (Out.wp_mono (Out.wp_bind q) (fun ds ρ' q vs H' F' ts r' o => ?_) fun _ _ z => z)
  split at q
  · rename_i d e
    exact hr r' o e fun v H2 F2 r2 => q v H2 F2 r2
  · exact q.elim
/-- as a test -/
def evTOp (ps : List Opd) (op : List D → Option D) : En → Out Bool := fun ρ => (evOps ps ρ).bind fun ds ρ' => match op ds with
  | some (.bl b) => .ok b ρ'
  | _ => .no
theorem opt_run {ps : List Opd} {op : List D → Option D} {r : List V → Hp → VK → Prop} (hr : OpS B r op) {σ : L2.St} {H : Hp} {Q : Bool → Hp → Prop} (h : cT B (evTOp ps op) σ H Q) : tOps B ps σ H fun vs H' => r vs H' fun x H2 => ∃ k, x = .bl k ∧ Q k H2 := by
  obtain ⟨T, ρ, F, rr, q⟩ := h
  refine ops_run rr (Out.wp_mono (Out.wp_bind q) (fun ds ρ' q vs H' F' ts r' o => ?_) fun _ _ z => z)
  split at q
  · rename_i b e
    refine hr r' o e fun v H2 F2 r2 => ?_
    cases bl_of r2
    exact ⟨b, rfl, q H2 F2 r2.drop⟩
  · exact q.elim
def rr2 (r : R2) : List V → Hp → VK → Prop := fun vs H Q => match vs with
  | [x, y] => r x y H Q
  | _ => False
def rr1 (r : V → Hp → VK → Prop) : List V → Hp → VK → Prop := fun vs H Q => match vs with
  | [x] => r x H Q
  | _ => False
variable {a b e : Expr} {es : List Expr} {pa pb : Opd} {ps : List Opd} {o : List D → Option D} {pos : Pos}
theorem ev_bin {op : Operator} {r : R2} (ho : OpR X (binaryOp op) r) (hr : OpS B (rr2 r) o) (ha : PE X a (tOpd B pa)) (hb : PE X b (tOpd B pb)) : PE X (.BinOp a op b pos) (cE B (evOp [pa, pb] o)) :=
  (pe_op ho ha hb).imp fun _ _ _ h => op_run hr h
theorem ev_un {op : UnaryOp} {r : V → Hp → VK → Prop} (ho : UnR X (unaryOp op) r) (hr : OpS B (rr1 r) o) (ha : PE X a (tOpd B pa)) : PE X (.UnaryOp op a pos) (cE B (evOp [pa] o)) :=
  (pe_un ho ha).imp fun _ _ _ h => op_run hr h
theorem ev_cmp {op : CmpOp} {r : R2} (ho : OpR X (compareOp op) r) (hr : OpS B (rr2 r) o) (hm : behindInMarks op b = false) (ha : PE X a (tOpd B pa)) (hb : PE X b (tOpd B pb)) : PE X (.Compare a [op] [b] pos) (cE B (evOp [pa, pb] o)) :=
  (pe_cmpR ho ha hb hm).imp fun _ _ _ h => op_run hr h
theorem et_cmp {op : CmpOp} {r : R2} (ho : OpR X (compareOp op) r) (hr : OpS B (rr2 r) o) (hm : behindInMarks op b = false) (ha : PE X a (tOpd B pa)) (hb : PE X b (tOpd B pb)) : PT X (.Compare a [op] [b] pos) (cT B (evTOp [pa, pb] o)) :=
  (pt_cmpR ho ha hb hm).imp fun _ _ _ h => opt_run hr h
theorem ev_ix {r : R2} (ho : IxR X r) (hr : OpS B (rr2 r) o) (ha : PE X a (tOpd B pa)) (hb : PE X b (tOpd B pb)) (hs : PlainIx b) : PE X (.Subscript a b pos) (cE B (evOp [pa, pb] o)) :=
  (pe_ix ho ha hb hs).imp fun _ _ _ h => op_run hr h
inductive EA (X : Cx) (B : Bs) : List Expr → List Opd → Prop
  | nil : EA X B [] []
  | cons {e : Expr} {es : List Expr} {p : Opd} {ps : List Opd} (h : PE X e (tOpd B p)) (r : EA X B es ps) (hs : starEach (e :: es) X.env = (false, eval e X.env) :: starEach es X.env := by rfl) : EA X B (e :: es) (p :: ps)
theorem EA.run (h : EA X B es ps) : PA X es (tOps B ps) := by
  induction h with
  | nil => exact pa_nil
  | cons h r hs ih => exact pa_cons h ih hs
theorem ev_bt {x : Str} {id : String} {p : Pos} {r : List V → Hp → VK → Prop} (hc : CallR X (.builtin id) r) (hr : OpS B r o) (hg : Gl X x) (hm : X.mg x = none) (hv : bootBuiltins x = some (.builtin id)) (ha : EA X B (e :: es) ps) (hn : x ≠ "__name__" := by decide) (hdb : (x == ("__debug__" : Str)) = false := by decide)
    (he : starEach (e :: es) X.env = (false, eval e X.env) :: starEach es X.env := by rfl) (hpl : (backTo pos (starEach es X.env)).any (·.1) = false := by rfl) : PE X (.Call (.Name x p) (e :: es) [] pos) (cE B (evOp ps o)) :=
  (pe_callB hc hg hm hv ha.run hn hdb he hpl).imp fun _ _ _ h => op_run hr h
theorem ev_ty {x : Str} {id : String} {p : Pos} {r : List V → Hp → VK → Prop} (hc : CallR X (.type id) r) (hr : OpS B r o) (hg : Gl X x) (hm : X.mg x = none) (hv : bootBuiltins x = some (.type id)) (ha : EA X B (e :: es) ps) (hn : x ≠ "__name__" := by decide) (hdb : (x == ("__debug__" : Str)) = false := by decide)
    (he : starEach (e :: es) X.env = (false, eval e X.env) :: starEach es X.env := by rfl) (hpl : (backTo pos (starEach es X.env)).any (·.1) = false := by rfl) : PE X (.Call (.Name x p) (e :: es) [] pos) (cE B (evOp ps o)) :=
  (pe_callTy hc hg hm hv ha.run hn hdb he hpl).imp fun _ _ _ h => op_run hr h

/-! ### tests -/
def evT (f : En → Out D) : En → Out Bool := fun ρ => (f ρ).bind fun d ρ' => match d with
  | .bl b => .ok b ρ'
  | _ => .no
theorem et_val {f : En → Out D} (h : PE X e (cE B f)) (he : ∀ whole, isTrue e X.env whole = (do let v ← whole; standAt e.pos; holding [v] (truthy v)) := by intro _; rfl) : PT X e (cT B (evT f)) :=
  (pt_val h he).imp fun σ H Q ⟨T, ρ, F, r, q⟩ => by
    refine ⟨T, ρ, F, r, Out.wp_mono (Out.wp_bind q) (fun d ρ' q v H' F' r' => ?_) fun _ _ z => z⟩
    split at q
    · cases bl_of r'
      exact ⟨_, rfl, q H' F' r'.drop⟩
    · exact q.elim
def evTNot (f : En → Out Bool) : En → Out Bool := fun ρ => (f ρ).bind fun b ρ' => .ok (!b) ρ'
theorem et_not {f : En → Out Bool} (h : PT X a (cT B f)) : PT X (.UnaryOp .Not a pos) (cT B (evTNot f)) := (pt_not h).imp fun σ H Q ⟨T, ρ, F, r, q⟩ =>
  ⟨T, ρ, F, r, Out.wp_mono (Out.wp_bind q) (fun d ρ' q H' F' r' => q H' F' r') fun _ _ z => z⟩
def evTAnd (f g : En → Out Bool) : En → Out Bool := fun ρ => (f ρ).bind fun b ρ' => if b = true then g ρ' else .ok false ρ'
def evTOr (f g : En → Out Bool) : En → Out Bool := fun ρ => (f ρ).bind fun b ρ' => if b = true then .ok true ρ' else g ρ'
theorem ew_one_and {f : En → Out Bool} (h : PT X a (cT B f)) : PW X (.BoolOp .And [a] pos) (cT B f) := pw_and1 h
theorem ew_one_or {f : En → Out Bool} (h : PT X a (cT B f)) : PW X (.BoolOp .Or [a] pos) (cT B f) := pw_or1 h
theorem _root_.L2.PW.imp {e : Expr} {t t' : TT} (h : PW X e t) (w : ∀ σ H Q, t' σ H Q → t σ H Q) : PW X e t' := ⟨fun wh pins s σ H Q I q => h.run wh pins s σ H Q I (w _ _ _ q)⟩
theorem ew_and {f g : En → Out Bool} {rest : List Expr} (ha : PT X a (cT B f)) (hb : PW X (.BoolOp .And (b :: rest) pos) (cT B g)) : PW X (.BoolOp .And (a :: b :: rest) pos) (cT B (evTAnd f g)) :=
  (pw_and ha hb).imp fun σ H Q ⟨T, ρ, F, r, q⟩ => by
    refine ⟨T, ρ, F, r, Out.wp_mono (Out.wp_bind q) (fun b ρ' q H' F' r' => ?_) fun _ _ z => z⟩
    cases b with
    | true => rw [if_pos rfl] at q ⊢; exact ⟨T, ρ', F', r', q⟩
    | false => rw [if_neg (by simp)] at q ⊢; exact q H' F' r'
theorem ew_or {f g : En → Out Bool} {rest : List Expr} (ha : PT X a (cT B f)) (hb : PW X (.BoolOp .Or (b :: rest) pos) (cT B g)) : PW X (.BoolOp .Or (a :: b :: rest) pos) (cT B (evTOr f g)) :=
  (pw_or ha hb).imp fun σ H Q ⟨T, ρ, F, r, q⟩ => by
    refine ⟨T, ρ, F, r, Out.wp_mono (Out.wp_bind q) (fun b ρ' q H' F' r' => ?_) fun _ _ z => z⟩
    cases b with
    | false => rw [if_neg (by simp)] at q ⊢; exact ⟨T, ρ', F', r', q⟩
    | true => rw [if_pos rfl] at q ⊢; exact q H' F' r'
theorem et_w {f : En → Out Bool} (h : PW X e (cT B f)) : PT X e (cT B f) := h.pt
/-- and, or, not as values -/
def evBl (f : En → Out Bool) : En → Out D := fun ρ => (f ρ).bind fun b ρ' => .ok (.bl b) ρ'
def evAnd (f g : En → Out D) : En → Out D := fun ρ => (f ρ).bind fun d ρ' => match d with
  | .bl true => g ρ'
  | .bl false => .ok (.bl false) ρ'
  | _ => .no
def evOr (f g : En → Out D) : En → Out D := fun ρ => (f ρ).bind fun d ρ' => match d with
  | .bl true => .ok (.bl true) ρ'
  | .bl false => g ρ'
  | _ => .no
def evNot (f : En → Out D) : En → Out D := fun ρ => (f ρ).bind fun d ρ' => match d with
  | .bl b => .ok (.bl (!b)) ρ'
  | _ => .no
theorem ev_one {op} {f : En → Out D} (h : PE X a (cE B f)) : PE X (.BoolOp op [a] pos) (cE B f) := pe_one h
theorem ev_and {f g : En → Out D} {rest : List Expr} (ha : PE X a (cE B f)) (hb : PE X (.BoolOp .And (b :: rest) pos) (cE B g)) : PE X (.BoolOp .And (a :: b :: rest) pos) (cE B (evAnd f g)) :=
  (pe_and ha hb).imp fun σ H Q ⟨T, ρ, F, r, q⟩ => by
    refine ⟨T, ρ, F, r, Out.wp_mono (Out.wp_bind q) (fun d ρ' q v H' F' r' => ?_) fun _ _ z => z⟩
    split at q
    · cases bl_of r'; exact ⟨_, rfl, by rw [if_pos rfl]; exact ⟨T, ρ', F', r'.drop, q⟩⟩
    · cases bl_of r'; exact ⟨_, rfl, by rw [if_neg (by simp)]; exact q _ _ _ r'⟩
    · exact q.elim
theorem ev_or {f g : En → Out D} {rest : List Expr} (ha : PE X a (cE B f)) (hb : PE X (.BoolOp .Or (b :: rest) pos) (cE B g)) : PE X (.BoolOp .Or (a :: b :: rest) pos) (cE B (evOr f g)) :=
  (pe_or ha hb).imp fun σ H Q ⟨T, ρ, F, r, q⟩ => by
    refine ⟨T, ρ, F, r, Out.wp_mono (Out.wp_bind q) (fun d ρ' q v H' F' r' => ?_) fun _ _ z => z⟩
    split at q
    · cases bl_of r'; exact ⟨_, rfl, by rw [if_pos rfl]; exact q _ _ _ r'⟩
    · cases bl_of r'; exact ⟨_, rfl, by rw [if_neg (by simp)]; exact ⟨T, ρ', F', r'.drop, q⟩⟩
    · exact q.elim
theorem ev_not {f : En → Out D} (ha : PE X a (cE B f)) : PE X (.UnaryOp .Not a pos) (cE B (evNot f)) :=
  (pe_not ha).imp fun σ H Q ⟨T, ρ, F, r, q⟩ => by
    refine ⟨T, ρ, F, r, Out.wp_mono (Out.wp_bind q) (fun d ρ' q v H' F' r' => ?_) fun _ _ z => z⟩
    split at q
    · cases bl_of r'; exact ⟨_, rfl, q _ _ _ (r'.drop.push (.bl _))⟩
    · exact q.elim
def evIf (c : En → Out Bool) (f g : En → Out D) : En → Out D := fun ρ => (c ρ).bind fun b ρ' => if b = true then f ρ' else g ρ'
theorem ev_if {c : Expr} {fc : En → Out Bool} {f g : En → Out D} (hc : PT X c (cT B fc)) (ha : PE X a (cE B f)) (hb : PE X b (cE B g)) : PE X (.IfExp c a b pos) (cE B (evIf fc f g)) :=
  (pe_ifExp hc ha hb).imp fun σ H Q ⟨T, ρ, F, r, q⟩ => by
    refine ⟨T, ρ, F, r, Out.wp_mono (Out.wp_bind q) (fun b ρ' q H' F' r' => ?_) fun _ _ z => z⟩
    cases b with
    | true => rw [if_pos rfl] at q ⊢; exact ⟨T, ρ', F', r', q⟩
    | false => rw [if_neg (by simp)] at q ⊢; exact ⟨T, ρ', F', r', q⟩

/-! ### displays -/
theorem OpV.vals {ρ : En} {σ : L2.St} : ∀ {fs : List (En → Out D)} {ts : Tm} {ds : List D} {vs : List V}, OpV ρ σ (fs.map Opd.val) ts ds vs → ts.map (·.1) = ds ∧ ts.map (·.2) = vs
  | [], _, _, _, .nil => ⟨rfl, rfl⟩
  | f :: fs, _, _, _, .val o => by
    obtain ⟨h1, h2⟩ := OpV.vals o
    exact ⟨by simp [h1], by simp [h2]⟩
def evTup (fs : List (En → Out D)) : En → Out D := fun ρ => (evOps (fs.map Opd.val) ρ).bind fun ds ρ' => .ok (.tup ds) ρ'
def evLst (fs : List (En → Out D)) : En → Out D := fun ρ => (evOps (fs.map Opd.val) ρ).bind fun ds ρ' => .ok (.lst true ds) ρ'
inductive EM (X : Cx) (B : Bs) : List Expr → List (En → Out D) → Prop
  | nil : EM X B [] []
  | cons {e : Expr} {es : List Expr} {f : En → Out D} {fs : List (En → Out D)} (h : PE X e (cE B f)) (r : EM X B es fs) (hs : starEach (e :: es) X.env = (false, eval e X.env) :: starEach es X.env := by rfl) : EM X B (e :: es) (f :: fs)
theorem EM.run {fs : List (En → Out D)} (h : EM X B es fs) : PA X es (tOps B (fs.map Opd.val)) := by
  induction h with
  | nil => exact pa_nil
  | cons h r hs ih => exact pa_cons h ih hs
theorem ops_len {ps : List Opd} {ρ : En} {σ : L2.St} {ts : Tm} {ds : List D} {vs : List V} (o : OpV ρ σ ps ts ds vs) : ds.length = ps.length := by
  induction o with
  | nil => rfl
  | val _ ih => simp [ih]
  | var _ _ _ _ ih => simp [ih]
theorem ev_tup {fs : List (En → Out D)} {k : Nat} (h : EM X B es fs) (hz : fs.length ≤ sizeLine := by decide) : PE X (.Tuple es k pos) (cE B (evTup fs)) :=
  (pe_tup h.run).imp fun σ H Q ⟨T, ρ, F, r, q⟩ => by
    refine ops_run r (Out.wp_mono (Out.wp_bind q) (fun ds ρ' q vs H' F' ts r' o => ?_) fun _ _ z => z)
    obtain ⟨e1, e2⟩ := o.vals
    have hl : vs.length ≤ sizeLine := by rw [← o.len, ops_len o, List.length_map]; exact hz
    refine ⟨hl, fun p hp => ?_⟩
    have := r'.mkTup hp (by rw [← List.length_map (f := (·.2)), e2]; exact hl)
    rw [e1, e2] at this
    exact q _ _ _ this
theorem ev_lst {fs : List (En → Out D)} (h : EM X B es fs) (hz : fs.length ≤ sizeLine := by decide) : PE X (.List es pos) (cE B (evLst fs)) :=
  (pe_lst h.run).imp fun σ H Q ⟨T, ρ, F, r, q⟩ => by
    refine ops_run r (Out.wp_mono (Out.wp_bind q) (fun ds ρ' q vs H' F' ts r' o => ?_) fun _ _ z => z)
    obtain ⟨e1, e2⟩ := o.vals
    have hl : vs.length ≤ sizeLine := by rw [← o.len, ops_len o, List.length_map]; exact hz
    refine ⟨hl, fun p hp => ?_⟩
    have := r'.mkLst hp (by rw [← List.length_map (f := (·.2)), e2]; exact hl)
    rw [e1, e2] at this
    exact q _ _ _ this
end
end Fw

/- part Fw4 -/
namespace Fw
open PySem PySem.Spec PyProof.Rows L2

/-! ### statements -/
def nxS : En → Out Fl := fun ρ => .ok .nx ρ
def sqS (f g : En → Out Fl) : En → Out Fl := fun ρ => (f ρ).bind fun fl ρ' => match fl with
  | .nx => g ρ'
  | .rt d => .ok (.rt d) ρ'
  | .bk => .ok .bk ρ'
  | .ct => .ok .ct ρ'
def bkS : En → Out Fl := fun ρ => .ok .bk ρ
def ctS : En → Out Fl := fun ρ => .ok .ct ρ
def sRet (f : En → Out D) : En → Out Fl := fun ρ => (f ρ).bind fun d ρ' => .ok (.rt d) ρ'
def sRetN : En → Out Fl := fun ρ => .ok (.rt .non) ρ
def sDrop (f : En → Out D) : En → Out Fl := fun ρ => (f ρ).bind fun _ ρ' => .ok .nx ρ'
def sIf (c : En → Out Bool) (f g : En → Out Fl) : En → Out Fl := fun ρ => (c ρ).bind fun b ρ' => if b = true then f ρ' else g ρ'
def sAs (i : Nat) (f : En → Out D) : En → Out Fl := fun ρ => (f ρ).bind fun d ρ' => .ok .nx { ρ' with vs := ρ'.vs.set i (mkSv d) }
def setsh (vs : List Sv) : List Nat → List D → Option (List Sv)
  | [], [] => some vs
  | i :: is, d :: ds => setsh (vs.set i (.sh d)) is ds
  | _, _ => none
def tgN (i : Nat) : D → En → Option En := fun d ρ => some { ρ with vs := ρ.vs.set i (mkSv d) }
def tgT (is : List Nat) : D → En → Option En := fun d ρ => match fz d with
  | .tup ds => (setsh ρ.vs is ds).map fun vs => { ρ with vs := vs }
  | _ => none
def sAsT (t : D → En → Option En) (f : En → Out D) : En → Out Fl := fun ρ => (f ρ).bind fun d ρ' => match t d ρ' with
  | some ρ2 => .ok .nx ρ2
  | none => .no
def forL (t : D → En → Option En) (body : En → Out Fl) (fg : List Nat) : List D → En → Out Fl
  | [], ρ => .ok .nx ρ
  | d :: ds, ρ => match t d ρ with
    | none => .no
    | some ρ1 => (body ρ1).bind fun fl ρ2 => match fl with
      | .nx => forL t body fg ds { ρ2 with vs := fgt ρ2.vs fg }
      | .ct => forL t body fg ds { ρ2 with vs := fgt ρ2.vs fg }
      | .bk => .ok .nx ρ2
      | .rt d => .ok (.rt d) ρ2
def sFor (it : En → Out (List D)) (t : D → En → Option En) (body : En → Out Fl) (fg : List Nat) : En → Out Fl := fun ρ => (it ρ).bind fun ds ρ' => forL t body fg ds ρ'
def whL (c : En → Out Bool) (body : En → Out Fl) (fg : List Nat) : Nat → En → Out Fl
  | 0, _ => .no
  | n + 1, ρ => (c ρ).bind fun b ρ1 => if b = true then (body ρ1).bind fun fl ρ2 => match fl with
      | .nx => whL c body fg n { ρ2 with vs := fgt ρ2.vs fg }
      | .ct => whL c body fg n { ρ2 with vs := fgt ρ2.vs fg }
      | .bk => .ok .nx ρ2
      | .rt d => .ok (.rt d) ρ2
    else .ok .nx ρ1
def noEx {α : Type} : Out α → Out α
  | .ok a ρ => .ok a ρ
  | _ => .no
/-- [elt for t in it if c] -/
def lcL (t : D → En → Option En) (c : En → Out Bool) (elt : En → Out D) (own : List Nat) : List D → En → Out (List D)
  | [], ρ => .ok [] ρ
  | d :: ds, ρ => match t d ρ with
    | none => .no
    | some ρ1 => (noEx (c ρ1)).bind fun b ρ2 => if b = true then
        (noEx (elt ρ2)).bind fun y ρ3 => (lcL t c elt own ds { ρ3 with vs := fgt ρ3.vs own }).bind fun ys ρ4 => .ok (y :: ys) ρ4
      else lcL t c elt own ds { ρ2 with vs := fgt ρ2.vs own }
def evLc (it : En → Out (List D)) (t : D → En → Option En) (c : En → Out Bool) (elt : En → Out D) (own : List Nat) : En → Out D := fun ρ =>
  (it ρ).bind fun ds ρ' => (lcL t c elt own ds { ρ' with vs := fgt ρ'.vs own }).bind fun ys ρ2 => .ok (.lst true ys) ρ2
def evYes : En → Out Bool := fun ρ => .ok true ρ

section
variable {X : Cx} {B : Bs} {st : Stmt} {rest : List Stmt} {e : Expr} {pos : Pos} {f g : En → Out Fl} {fe : En → Out D}
theorem ss_nil : PSs X [] (cS B nxS) := pss_nil.imp fun D' σ H ⟨T, ρ, F, r, q⟩ => q _ _ _ r
theorem ss_cons (h1 : PS X st (cS B f)) (h2 : PSs X rest (cS B g)) : PSs X (st :: rest) (cS B (sqS f g)) := (pss_cons h1 h2).imp fun D' σ H ⟨T, ρ, F, r, q⟩ => by
  refine ⟨T, ρ, F, r, Out.wp_mono (Out.wp_bind q) (fun fl ρ' q => ?_) fun _ _ z => z⟩
  cases fl with
  | nx => exact fun σ H F r => ⟨T, ρ', F, r, q⟩
  | rt d => exact q
  | bk => exact q
  | ct => exact q
theorem ss_one (h : PS X st (cS B f)) : PSs X [st] (cS B f) := pss_one h
theorem es_pass : PS X (.Pass pos) (cS B nxS) := ps_pass.imp fun D' σ H ⟨T, ρ, F, r, q⟩ => q _ _ _ r
theorem es_break : PS X (.Break pos) (cS B bkS) := ps_break.imp fun D' σ H ⟨T, ρ, F, r, q⟩ => q _ _ _ r
theorem es_continue : PS X (.Continue pos) (cS B ctS) := ps_continue.imp fun D' σ H ⟨T, ρ, F, r, q⟩ => q _ _ _ r
theorem es_doc {x j pos pos'} : PS X (.Expr (.Constant (.str x) j pos) pos') (cS B nxS) := ps_doc.imp fun D' σ H ⟨T, ρ, F, r, q⟩ => q _ _ _ r
theorem exS {T : Tm} {σ : L2.St} {x : Exc} {ρ : En} (z : sxQ B T x ρ) : exQ B T σ x ρ := fun cls d H F xr r => z cls d σ H F xr r
theorem es_ret (h : PE X e (cE B fe)) : PS X (.Return (some e) pos) (cS B (sRet fe)) := (ps_ret h).imp fun D' σ H ⟨T, ρ, F, r, q⟩ =>
  ⟨T, ρ, F, r, Out.wp_mono (Out.wp_bind q) (fun d ρ' q v H' F' r' => q v σ H' F' r') fun _ _ z => exS z⟩
theorem es_retN : PS X (.Return none pos) (cS B sRetN) := ps_retN.imp fun D' σ H ⟨T, ρ, F, r, q⟩ => q _ σ _ _ (r.push .non)
theorem es_drop (h : PE X e (cE B fe)) (hs : swapsWith e none pos.line X.env = pure false := by rfl) : PS X (.Expr e pos) (cS B (sDrop fe)) := (ps_expr h hs).imp fun D' σ H ⟨T, ρ, F, r, q⟩ =>
  ⟨T, ρ, F, r, Out.wp_mono (Out.wp_bind q) (fun d ρ' q v H' F' r' => q σ H' F' r'.drop) fun _ _ z => exS z⟩
theorem es_if {c : Expr} {a b : List Stmt} {fc : En → Out Bool} (hc : PT X c (cT B fc)) (ha : PSs X a (cS B f)) (hb : PSs X b (cS B g)) : PS X (.If c a b pos) (cS B (sIf fc f g)) := (ps_if hc ha hb).imp fun D' σ H ⟨T, ρ, F, r, q⟩ => by
  refine ⟨T, ρ, F, r, Out.wp_mono (Out.wp_bind q) (fun b ρ' q H' F' r' => ?_) fun _ _ z => exS z⟩
  cases b with
  | true => rw [if_pos rfl] at q ⊢; exact ⟨T, ρ', F', r', q⟩
  | false => rw [if_neg (by simp)] at q ⊢; exact ⟨T, ρ', F', r', q⟩
/-- x = e -/
theorem es_as {i : Nat} {te : TE} (h : PS X st (tAsg te (gName i))) (w : ∀ σ H Q, cE B fe σ H Q → te σ H Q) (hf : B.free [i] = true) : PS X st (cS B (sAs i fe)) := h.imp fun D' σ H ⟨T, ρ, F, r, q⟩ =>
  w _ _ _ ⟨T, ρ, F, r, Out.wp_mono (Out.wp_bind q) (fun d ρ' q v H' F' r' => q _ _ _ (r'.store hf)) fun _ _ z => exS z⟩
theorem es_set {i : Nat} {x : Str} {pos' : Pos} (hN : X.N.Nodup) (hi : X.N[i]? = some x) (hx : Loc X.env.scope x) (he : PE X e (cE B fe)) (hs : swapsWith e (some (.Name x pos')) pos.line X.env = pure false := by rfl) (hf : X.fn x = true ∨ X.env.scope.names.lookup x = some .local := by first | exact .inl rfl | exact .inr rfl | assumption) (hme : B.free [i] = true := by rfl) :
    PS X (.Assign [.Name x pos'] e pos) (cS B (sAs i fe)) := es_as (ps_set hN hi hx he hs hf) (fun _ _ _ h => h) hme

/-! ### targets -/
def cG (B : Bs) (t : D → En → Option En) : TG := fun v σ H Q => ∃ T ρ F d ρ', R B (T ++ [(d, v)]) ρ σ H F ∧ t d ρ = some ρ' ∧ ∀ σ' H' F', R B T ρ' σ' H' F' → Q σ' H'
theorem _root_.L2.PG.imp {tg : Expr} {t t' : TG} (h : PG X tg t) (w : ∀ v σ H Q, t' v σ H Q → t v σ H Q) : PG X tg t' := ⟨fun pins s σ H v u Q I r q => h.run pins s σ H v u Q I r (w _ _ _ _ q)⟩
theorem eg_name {i : Nat} {x : Str} (hN : X.N.Nodup) (hi : X.N[i]? = some x) (hx : Loc X.env.scope x) (hf : X.fn x = true ∨ X.env.scope.names.lookup x = some .local := by first | exact .inl rfl | exact .inr rfl | assumption) (hme : B.free [i] = true := by rfl) : PG X (.Name x pos) (cG B (tgN i)) :=
  (pg_name hN hi hx hf).imp fun v σ H Q ⟨T, ρ, F, d, ρ', r, e, q⟩ => by
    cases e
    exact q _ _ _ (r.store hme)
/-- names for the parts -/
inductive EG (X : Cx) : List Expr → List Nat → Prop
  | nil : EG X [] []
  | cons {x : Str} {p : Pos} {es : List Expr} {i : Nat} {is : List Nat} (hi : X.N[i]? = some x) (hx : Loc X.env.scope x) (r : EG X es is)
      (hs : (assignEach (.Name x p :: es) X.env).map (·.2) = assign (.Name x p) X.env :: (assignEach es X.env).map (·.2) := by rfl) (hf : X.fn x = true ∨ X.env.scope.names.lookup x = some .local := by first | exact .inl rfl | exact .inr rfl | assumption) : EG X (.Name x p :: es) (i :: is)
def gNames : List Nat → TGs
  | [] => gNil
  | i :: is => gCons (gName i) (gNames is)
theorem EG.run {es : List Expr} {is : List Nat} (hN : X.N.Nodup) (h : EG X es is) : PGs X es (gNames is) := by
  induction h with
  | nil => exact pgs_nil
  | cons hi hx r hs hf ih => exact pgs_cons (pg_name hN hi hx hf) ih hs
theorem freezeTmp {T : Tm} {ρ : En} {σ : L2.St} {H : Hp} {F : List Addr} {d : D} {v : V} (r : R B (T ++ [(d, v)]) ρ σ H F) : ∃ F', R B T ρ σ H F' ∧ Rp B.S H (hid (B.M ++ F') H) (fz d) v [] := by
  obtain ⟨F', r', rl, _⟩ := r.shareOps (ps := [.val fun _ => .no]) (ds := [d]) (vs := [v]) (ts := [(d, v)]) (.val .nil) [] (fun _ z => nomatch z)
  refine ⟨F', ?_, (RpL.cons_nil rl).1⟩
  have e : ∀ (n : Nat) (l : List Sv), frzS [] n l = l := fun n l => by
    induction l generalizing n with
    | nil => rfl
    | cons s l ih => rw [frzS, ih]; simp
  have := r'
  rw [e] at this
  exact this
theorem names_run {is : List Nat} : ∀ {ds : List D} {vs : List V} {T : Tm} {ρ : En} {σ : L2.St} {H : Hp} {F : List Addr} {svs : List Sv} {Q : L2.St → Hp → Prop}, B.free is = true → R B T ρ σ H F → RpL B.S H (hid (B.M ++ F) H) ds vs [] →
    setsh ρ.vs is ds = some svs → (∀ σ' H' F', R B T { ρ with vs := svs } σ' H' F' → Q σ' H') → gNames is vs σ H Q := by
  induction is with
  | nil =>
    intro ds vs T ρ σ H F svs Q hf r rl e q
    cases ds with
    | nil => cases rl; cases e; exact ⟨rfl, q _ _ _ r⟩
    | cons d ds => cases e
  | cons i is ih =>
    intro ds vs T ρ σ H F svs Q hf r rl e q
    cases ds with
    | nil => cases e
    | cons d ds =>
      cases vs with
      | nil => have := rl.length; simp at this
      | cons v vs =>
        obtain ⟨h1, h2⟩ := rl.cons_nil
        refine ⟨v, vs, rfl, ?_⟩
        have r1 := (r.push h1).store (i := i) (Bs.free_cons hf).1
        refine ih (ρ := { ρ with vs := ρ.vs.set i (.sh d) }) (Bs.free_cons hf).2 ?_ h2 e q
        -- the slot is shared
        have : R B T { ρ with vs := ρ.vs.set i (.sh d) } (σ.set i (some v)) H F := by
          obtain ⟨fp, p⟩ := r.pt
          refine { r with len := by simp [r.len], pin := r1.pin, pt := ⟨fp, { p with sl := fun j s q => ?_ }⟩ }
          rcases getElem?_set' q with ⟨rfl, rfl⟩ | ⟨ne, q⟩
          · refine ⟨v, ?_, h1⟩
            have hi : i < σ.length := by
              rw [r.len]
              have := (List.getElem?_eq_some_iff.mp q).1
              simpa using this
            rw [List.getElem?_set_self hi]
          · rw [List.getElem?_set_ne ne]; exact p.sl j s q
        exact this
theorem eg_tup {es : List Expr} {is : List Nat} {k : Nat} (hN : X.N.Nodup) (hc : X.calm = true) (h : EG X es is) (hl : es.length = is.length := by rfl) (hn : (assignEach es X.env).length = es.length := by rfl) (hst : (assignEach es X.env).findIdx? (·.1) = none := by rfl) (hme : B.free is = true := by rfl) : PG X (.Tuple es k pos) (cG B (tgT is)) :=
  (pg_tup hc (h.run hN) hn hst).imp fun v σ H Q ⟨T, ρ, F, d, ρ', r, e, q⟩ => by
    obtain ⟨F', r1, rd⟩ := freezeTmp r
    unfold tgT at e
    split at e
    · rename_i ds ed
      rw [ed] at rd
      cases rd with
      | @tup a vs _ _ h rl =>
        cases e1 : setsh ρ.vs is ds with
        | none => rw [e1] at e; cases e
        | some svs =>
          rw [e1] at e; cases e
          refine ⟨a, vs, rfl, SqT.of (hid_some h).2, ?_, names_run hme r1 rl e1 q⟩
          rw [← rl.length]
          have : ∀ (is : List Nat) (vs : List Sv) (ds : List D) (svs : List Sv), setsh vs is ds = some svs → ds.length = is.length := by
            intro is
            induction is with
            | nil => intro vs ds svs e; cases ds with
              | nil => rfl
              | cons d ds => cases e
            | cons i is ih => intro vs ds svs e; cases ds with
              | nil => cases e
              | cons d ds => simp [ih _ _ _ e]
          rw [this _ _ _ _ e1, hl]
    · cases e
theorem es_asT {tg : Expr} {t : D → En → Option En} (he : PE X e (cE B fe)) (hg : PG X tg (cG B t)) (hs : swapsWithSole [tg] e pos.line X.env = pure false := by rfl) (hw : swappedStores [tg] e X.env = pure none := by rfl)
    (h1 : (assignEach [tg] X.env).map (·.2) = [assign tg X.env] := by rfl) : PS X (.Assign [tg] e pos) (cS B (sAsT t fe)) := (ps_asg he hg hs hw h1).imp fun D' σ H ⟨T, ρ, F, r, q⟩ =>
  ⟨T, ρ, F, r, Out.wp_mono (Out.wp_bind q) (fun d ρ' q v H' F' r' => by
    split at q
    · rename_i ρ2 e2
      exact ⟨T, ρ', F', d, ρ2, r', e2, q⟩
    · exact q.elim) fun _ _ z => exS z⟩

/-! ### what is walked -/
/-- at turn i the iterator gives the i-th item; fr: what it leans on -/
def ItOk (B : Bs) (J : It) (items : List D) (fr : Tm) : Prop := items.length ≤ sizeLine ∧ ∀ (T T2 : Tm) (ρ : En) (σ : L2.St) (H : Hp) (F : List Addr), R B (T ++ fr ++ T2) ρ σ H F → ∀ i, (items.length ≤ i → J.stop i H) ∧
  ∀ d, items[i]? = some d → J.go i H ∧ ∀ x H', J.yld i H x H' → ∃ F', R B (T ++ fr ++ T2 ++ [(d, x)]) ρ σ H' F'
def cI (B : Bs) (it : En → Out (List D)) : TI := fun σ H Rr => ∃ T ρ F, R B T ρ σ H F ∧ (it ρ).wp (fun items ρ' => ∀ J H' F' fr, R B (T ++ fr) ρ' σ H' F' → ItOk B J items fr → Rr J H') (exQ B T σ)
theorem _root_.L2.PI.imp {tg e : Expr} {t t' : TI} (h : PI X tg e t) (w : ∀ σ H Q, t' σ H Q → t σ H Q) : PI X tg e t' := ⟨fun pins s σ H Q I q => h.run pins s σ H Q I (w _ _ _ q)⟩
theorem for_run {t : D → En → Option En} {body : En → Out Fl} {fg : List Nat} {it : En → Out (List D)} {tb : TS} (htb : ∀ D' σ H, cS B body D' σ H → tb D' σ H) {D' : Ends} {σ : L2.St} {H : Hp} (h : cS B (sFor it t body fg) D' σ H) : tFor (cI B it) (cG B t) tb D' σ H := by
  obtain ⟨T, ρ, F, r, q⟩ := h
  refine ⟨T, ρ, F, r, Out.wp_mono (Out.wp_bind q) (fun items ρ' q J H1 F1 fr r1 ok => ?_) fun _ _ z => exS z⟩
  refine ⟨fun i m σ H => m = items.length - i ∧ i ≤ items.length ∧ ∃ ρ F, R B (T ++ fr) ρ σ H F ∧ (forL t body fg (items.drop i) ρ).wp (slQ B T D') (sxQ B T), ⟨items.length, by simp, Nat.zero_le _, ρ', F1, r1, by simpa using q⟩, ?_⟩
  rintro i m σ H ⟨rfl, hi, ρ, F, r, q⟩
  have k := ok.2 T [] ρ σ H F (by simpa using r) i
  by_cases hlt : i < items.length
  · obtain ⟨d, ed⟩ : ∃ d, items[i]? = some d := ⟨_, List.getElem?_eq_getElem hlt⟩
    obtain ⟨hgo, hy⟩ := k.2 d ed
    have edr : items.drop i = d :: items.drop (i + 1) := by rw [List.drop_eq_getElem_cons hlt]; rw [List.getElem?_eq_getElem hlt] at ed; cases ed; rfl
    rw [edr, forL] at q
    refine .inr ⟨hgo, fun σ' H' => i + 1 ≤ items.length ∧ ∃ ρ F, R B (T ++ fr) ρ σ' H' F ∧ (forL t body fg (items.drop (i + 1)) ρ).wp (slQ B T D') (sxQ B T), fun σ' H' ⟨h1, h2⟩ => ⟨items.length - (i + 1), by omega, rfl, h1, h2⟩, fun x H' y => ?_⟩
    obtain ⟨F', r'⟩ := hy x H' y
    rw [List.append_nil] at r'
    split at q
    · exact q.elim
    · rename_i ρ1 e1
      refine ⟨T ++ fr, ρ, F', d, ρ1, r', e1, fun σ2 H2 F2 r2 => ?_⟩
      refine htb _ _ _ ⟨T ++ fr, ρ1, F2, r2, Out.wp_mono (Out.wp_bind q) (fun fl ρ2 q => ?_) fun x ρ2 z cls dd σ3 H3 F3 xr r3 => z cls dd σ3 H3 F3 xr r3.drop⟩
      cases fl with
      | nx => exact fun σ3 H3 F3 r3 => ⟨hlt, _, F3, r3.forget fg, q⟩
      | ct => exact fun σ3 H3 F3 r3 => ⟨hlt, _, F3, r3.forget fg, q⟩
      | bk => exact fun σ3 H3 F3 r3 => q σ3 H3 F3 r3.drop
      | rt d => exact fun v σ3 H3 F3 r3 => q v σ3 H3 F3 (R.dropMid r3)
  · have e : i = items.length := by omega
    subst e
    rw [List.drop_length, forL] at q
    exact .inl ⟨k.1 (Nat.le_refl _), q σ H F r.drop⟩
end
end Fw

/- part Fw5 -/
namespace Fw
open PySem PySem.Spec PyProof.Rows L2
section
variable {X : Cx} {B : Bs} {st : Stmt} {e tg iter : Expr} {pos : Pos} {f g : En → Out Fl} {fe : En → Out D} {t : D → En → Option En} {it : En → Out (List D)} {fg : List Nat} {body : List Stmt}
theorem es_for (hp : PassesOwn (model X.prog X.w) X.A X.env X.xe) (hc : X.calm = true) (hi : PI X tg iter (cI B it)) (hg : PG X tg (cG B t)) (hb : PSs X body (cS B f)) (hs : ∀ x, foldedSetIterable iter X.env x = pure x := by intro _; rfl) : PS X (.For tg iter body [] pos) (cS B (sFor it t f fg)) :=
  (ps_for hp hc hi hg hb hs).imp fun D' σ H h => for_run (fun _ _ _ z => z) h
theorem es_while (n : Nat) {c : Expr} {fc : En → Out Bool} (hp : PassesOwn (model X.prog X.w) X.A X.env X.xe) (hc : PT X c (cT B fc)) (hb : PSs X body (cS B f)) : PS X (.While c body [] pos) (cS B (whL fc f fg n)) :=
  (ps_while hp hc hb).imp fun D' σ H ⟨T, ρ, F, r, q⟩ => by
    refine ⟨fun m σ H => ∃ ρ F, R B T ρ σ H F ∧ (whL fc f fg m ρ).wp (slQ B T D') (sxQ B T), ⟨n, ρ, F, r, q⟩, fun m σ H ⟨ρ, F, r, q⟩ => ?_⟩
    cases m with
    | zero => exact q.elim
    | succ m =>
      refine ⟨T, ρ, F, r, Out.wp_mono (Out.wp_bind q) (fun b ρ1 q H1 F1 r1 => ?_) fun _ _ z => exS z⟩
      cases b with
      | false => rw [if_neg (by simp)] at q ⊢; exact q σ H1 F1 r1
      | true =>
        rw [if_pos rfl] at q ⊢
        refine ⟨fun σ' H' => ∃ ρ F, R B T ρ σ' H' F ∧ (whL fc f fg m ρ).wp (slQ B T D') (sxQ B T), fun σ' H' h => ⟨m, Nat.lt_succ_self m, h⟩, T, ρ1, F1, r1, Out.wp_mono (Out.wp_bind q) (fun fl ρ2 q => ?_) fun _ _ z => z⟩
        cases fl with
        | nx => exact fun σ3 H3 F3 r3 => ⟨_, F3, r3.forget fg, q⟩
        | ct => exact fun σ3 H3 F3 r3 => ⟨_, F3, r3.forget fg, q⟩
        | bk => exact q
        | rt d => exact q

/-! ### comprehensions -/
def WF : WX := fun _ _ _ _ => False
def Bs.mute (B : Bs) : Bs := { B with W := WF }
theorem R.mute {T : Tm} {ρ : En} {σ : L2.St} {H : Hp} {F : List Addr} (h : R B T ρ σ H F) : R B.mute T ρ σ H F := by
  obtain ⟨a1, ⟨fp, p1, p2, p3, p4, p5⟩, a3, a4, a5, a6, a7, a8, a9, a10, a11⟩ := h
  exact ⟨a1, ⟨fp, p1, p2, p3, p4, p5⟩, a3, a4, a5, a6, a7, a8, a9, a10, a11⟩
theorem R.unmute {T : Tm} {ρ : En} {σ : L2.St} {H : Hp} {F : List Addr} (h : R B.mute T ρ σ H F) : R B T ρ σ H F := by
  obtain ⟨a1, ⟨fp, p1, p2, p3, p4, p5⟩, a3, a4, a5, a6, a7, a8, a9, a10, a11⟩ := h
  exact ⟨a1, ⟨fp, p1, p2, p3, p4, p5⟩, a3, a4, a5, a6, a7, a8, a9, a10, a11⟩
/-- the list on the pile takes one more -/
theorem R.app {T : Tm} {ρ : En} {σ : L2.St} {H : Hp} {F : List Addr} {ds : List D} {d : D} {a : Addr} {v : V} (h : R B (T ++ [(.lst true ds, .ref a)] ++ [(d, v)]) ρ σ H F) :
    ∃ vs, H a = some (.lst vs) ∧ vs.length = ds.length ∧ (vs.length < sizeLine → R B (T ++ [(.lst true (ds ++ [d]), .ref a)]) ρ σ (upd H a (.lst (vs ++ [v]))) F) := by
  obtain ⟨fp, p⟩ := h.pt
  have r1 := p.tm T.length (.lst true ds) (.ref a) (by simp)
  have r2 := p.tm (T.length + 1) d v (by simp)
  generalize eG : fp (.inl T.length) = G at r1
  cases r1 with
  | @lstO _ vs _ F1 hH rl =>
    refine ⟨vs, hH, rl.length.symm, fun hz => ?_⟩
    have ha : a ∈ fp (.inl T.length) := by rw [eG]; exact List.mem_cons_self
    have haF : a ∈ F := p.sub _ a ha
    have haM : a ∉ B.M := fun z => h.dj a z haF
    have hh : hid (B.M ++ F) (upd H a (.lst (vs ++ [v]))) = hid (B.M ++ F) H := hid_upd (List.mem_append_right _ haF)
    have ne : ∀ b u, b ≠ a → H b = some u → upd H a (.lst (vs ++ [v])) b = some u := fun b u n q => by rw [upd_ne n]; exact q
    have nda := p.nd (.inl T.length)
    rw [eG] at nda
    have na1 : ∀ x ∈ F1, x ≠ a := fun x hx z => (List.nodup_cons.mp nda).1 (z ▸ hx)
    have na2 : ∀ x ∈ fp (.inl (T.length + 1)), x ≠ a := fun x hx z => by
      subst z
      have := Sum.inl.inj (p.ap _ _ x hx ha)
      omega
    have new : Rp B.S (upd H a (.lst (vs ++ [v]))) (hid (B.M ++ F) H) (.lst true (ds ++ [d])) (.ref a) (a :: (F1 ++ (fp (.inl (T.length + 1)) ++ []))) :=
      .lstO upd_same ((rl.mono (fun x hx u q => ne x u (na1 x hx) q) fun _ _ z => z).append (.cons (r2.mono (fun x hx u q => ne x u (na2 x hx) q) fun _ _ z => z) .nil))
    have memK : ∀ x, x ∈ (a :: (F1 ++ (fp (.inl (T.length + 1)) ++ []))) → x ∈ fp (.inl T.length) ∨ x ∈ fp (.inl (T.length + 1)) := fun x hx => by
      rw [eG]
      simp only [List.append_nil, List.mem_cons, List.mem_append] at hx ⊢
      rcases hx with z | z | z
      · exact .inl (.inl z)
      · exact .inl (.inr z)
      · exact .inr z
    have key : ∀ j x, x ∈ fpSet (fpCut fp T.length) (.inl T.length) (a :: (F1 ++ (fp (.inl (T.length + 1)) ++ []))) j → (j = .inl T.length ∧ (x ∈ fp (.inl T.length) ∨ x ∈ fp (.inl (T.length + 1)))) ∨ (j ≠ .inl T.length ∧ x ∈ fp j ∧ ∀ l, j = .inl l → l < T.length) := by
      intro j x hx
      by_cases q : j = .inl T.length
      · rw [q, fpSet_same] at hx; exact .inl ⟨q, memK x hx⟩
      · rw [fpSet_ne q] at hx
        refine .inr ⟨q, ?_⟩
        cases j with
        | inl j =>
          unfold fpCut at hx
          dsimp only at hx
          split at hx
          · exact ⟨hx, fun l e => by cases e; assumption⟩
          · cases hx
        | inr j => exact ⟨hx, fun l e => by cases e⟩
    refine { h with pt := ⟨fpSet (fpCut fp T.length) (.inl T.length) (a :: (F1 ++ (fp (.inl (T.length + 1)) ++ []))), ⟨fun j d' v' q => ?_, fun i s q => ?_, fun j => ?_, fun j l x hj hl => ?_, fun j x hj => ?_⟩⟩, md := fun b hb => ?_, st := h.st.mono fun b hb u q => ?_, ext := fun b u q n => ?_, hl := h.hl.upd (by intro ws e; rcases e with e | e <;> cases e; simp; omega), own := fun b hb => ?_ }
    · rcases last_get q with ⟨hj, q⟩ | ⟨ej, q⟩
      · rw [fpSet_ne (by intro z; cases z; exact Nat.lt_irrefl _ hj), fpCut_lt hj, hh]
        refine (p.tm j _ _ (by rw [List.append_assoc, List.getElem?_append_left hj]; exact q)).mono (fun x hx u z => ne x u (fun w => ?_) z) fun _ _ z => z
        rw [w] at hx
        have := p.ap _ _ a hx ha
        cases this
        exact Nat.lt_irrefl _ hj
      · cases q
        rw [ej, fpSet_same, hh]; exact new
    · rw [fpSet_ne (by intro z; cases z), hh]
      refine (p.sl i s q).mono (fun x hx u z => ne x u (fun w => ?_) z) fun _ _ z => z
      rw [w] at hx
      have := p.ap _ _ a hx ha
      cases this
    · by_cases q : j = .inl T.length
      · rw [q, fpSet_same, List.append_nil]
        refine List.nodup_cons.mpr ⟨fun z => ?_, List.nodup_append.mpr ⟨(List.nodup_cons.mp nda).2, p.nd _, fun x hx y hy w => ?_⟩⟩
        · rcases List.mem_append.mp z with z | z
          · exact na1 a z rfl
          · exact na2 a z rfl
        · subst w
          have : x ∈ fp (.inl T.length) := by rw [eG]; exact List.mem_cons_of_mem _ hx
          have := Sum.inl.inj (p.ap _ _ x this hy)
          omega
      · rw [fpSet_ne q]
        cases j with
        | inl j =>
          unfold fpCut
          dsimp only
          split
          · exact p.nd _
          · exact List.nodup_nil
        | inr j => exact p.nd _
    · rcases key j x hj with ⟨ej, kj⟩ | ⟨ej, kj, lj⟩ <;> rcases key l x hl with ⟨el, kl⟩ | ⟨el, kl, ll⟩
      · rw [ej, el]
      · rcases kj with z | z
        · exact absurd (p.ap _ _ x kl z) el
        · have := p.ap _ _ x kl z
          have := ll _ this
          omega
      · rcases kl with z | z
        · exact absurd (p.ap _ _ x kj z) ej
        · have := p.ap _ _ x kj z
          have := lj _ this
          omega
      · exact p.ap _ _ x kj kl
    · rcases key j x hj with ⟨ej, kj⟩ | ⟨ej, kj, lj⟩
      · rcases kj with z | z
        · exact p.sub _ _ z
        · exact p.sub _ _ z
      · exact p.sub _ _ kj
    · by_cases q : b = a
      · rw [q, upd_same]; simp
      · rw [upd_ne q]; exact h.md b hb
    · rw [upd_ne (by rintro rfl; exact haM (h.sM b hb))]; exact q
    · rw [upd_ne (by rintro rfl; rw [h.new b haF] at q; cases q)]; exact h.ext b u q n
    · by_cases q : b = a
      · rw [q, upd_same]; simp
      · rw [upd_ne q]; exact h.own b hb
theorem fgt_len (l : List Nat) : ∀ vs : List Sv, (fgt vs l).length = vs.length := by
  induction l with
  | nil => intro vs; rfl
  | cons i is ih => intro vs; rw [fgt, ih]; simp
theorem fgt_get {l : List Nat} : ∀ {vs : List Sv} {i : Nat} {s : Sv}, (fgt vs l)[i]? = some s → s = .no ∨ (i ∉ l ∧ vs[i]? = some s) := by
  induction l with
  | nil => intro vs i s e; exact .inr ⟨by simp, e⟩
  | cons j is ih =>
    intro vs i s e
    rcases ih e with z | ⟨h1, h2⟩
    · exact .inl z
    · rcases getElem?_set' h2 with ⟨_, z⟩ | ⟨ne, z⟩
      · exact .inl z
      · exact .inr ⟨by simp [h1, Ne.symm ne], z⟩
/-- slots that say nothing may hold anything -/
theorem R.slots {T : Tm} {ρ : En} {σ σ' : L2.St} {H : Hp} {F : List Addr} (h : R B T ρ σ H F) (hl : σ'.length = σ.length) (k : ∀ (i : Nat) (s : Sv), ρ.vs[i]? = some s → s = .no ∨ σ'[i]? = σ[i]?) (kp : ∀ i a, B.me i = some a → σ'[i]? = σ[i]?) : R B T ρ σ' H F := by
  obtain ⟨fp, p⟩ := h.pt
  refine { h with len := hl.trans h.len, pin := fun i a q => (kp i a q).trans (h.pin i a q), pt := ⟨fp, { p with sl := fun i s e => ?_ }⟩ }
  rcases k i s e with z | z
  · subst z; trivial
  · rw [z]; exact p.sl i s e
theorem wipe_pin {own : List Nat} {σ : L2.St} (hf : B.free own = true) {i : Nat} {a : Addr} (q : B.me i = some a) : (wipe σ own)[i]? = σ[i]? := wipe_out fun z => by rw [Bs.freeL hf z] at q; cases q
theorem wipe_get {σ : L2.St} {i : Nat} : ∀ {vs : List Nat}, i ∉ vs → (wipe σ vs)[i]? = σ[i]? := fun h => wipe_out h
theorem noEx_wp {α : Type} {o : Out α} {Q Q' : α → En → Prop} {Z Z' : Exc → En → Prop} (h : (noEx o).wp Q Z) (k : ∀ a ρ, Q a ρ → Q' a ρ) : o.wp Q' Z' := by
  cases o with
  | ok a ρ => exact k _ _ h
  | ex x ρ => exact h.elim
  | no => exact h.elim
theorem lc_mid {c : En → Out Bool} {elt : En → Out D} {own : List Nat} (hf : B.free own = true) {σ : L2.St} {Q : VK} {tt : TT} {te : TE} {T fr : Tm} {ρ' : En} {H1 : Hp} {F1 : List Addr} {items : List D} {J : It}
    (htt : ∀ σ H Q, cT B.mute c σ H Q → tt σ H Q) (hte : ∀ σ H Q, cE B.mute elt σ H Q → te σ H Q) (gt : TG)
    (hgg : ∀ (T : Tm) (ρ : En) (F : List Addr) (d : D) (ρ' : En) (v : V) (σ : L2.St) (H : Hp) (Q : L2.St → Hp → Prop), R B (T ++ [(d, v)]) ρ (wipe σ own) H F → t d ρ = some ρ' → (∀ σ' H' F', R B T ρ' σ' H' F' → wipe σ' own = wipe σ own → Q σ' H') → gt v (wipe σ own) H Q)
    (r1 : R B (T ++ fr) ρ' σ H1 F1) (ok : ItOk B J items fr) (Fin : List D → En → Prop) (hfin : ∀ ds ρ2 v H' F', Fin ds ρ2 → R B (T ++ fr ++ [(.lst true ds, v)]) ρ2 σ H' F' → Q v H')
    (q : (lcL t c elt own items { ρ' with vs := fgt ρ'.vs own }).wp (fun ys ρ2 => Fin ys ρ2) (exQ B T σ)) (A : Addr) (hA : H1 A = none) :
    ∃ W : Nat → Nat → Hp → Prop, (∃ m, W 0 m (upd H1 A (.lst []))) ∧ ∀ i m H, W i m H →
      (J.stop i H ∧ Q (.ref A) H) ∨ (J.go i H ∧ ∃ Nx : Hp → Prop, (∀ H', Nx H' → ∃ m', m' < m ∧ W (i + 1) m' H') ∧ ∀ x H', J.yld i H x H' → gt x (wipe σ own) H' fun σ2 H2 => wipe σ2 own = wipe σ own ∧ tt σ2 H2 fun b H3 =>
        if b = true then te σ2 H3 fun y H4 => ∃ acc, H4 A = some (.lst acc) ∧ acc.length < sizeLine ∧ Nx (upd H4 A (.lst (acc ++ [y]))) else Nx H3) := by
  have rA := R.mkLst (ts := []) (T := T ++ fr) (by rw [List.append_nil]; exact r1) hA (by show 0 ≤ sizeLine; exact Nat.zero_le _)
  have hwl : (wipe σ own).length = σ.length := wipe_length σ own
  have r0 : R B (T ++ fr ++ [(.lst true [], .ref A)]) { ρ' with vs := fgt ρ'.vs own } (wipe σ own) (upd H1 A (.lst [])) (A :: F1) := by
    refine (rA.forget own).slots hwl (fun i s e => ?_) fun i a q => wipe_pin hf q
    rcases fgt_get e with z | ⟨z, _⟩
    · exact .inl z
    · exact .inr (wipe_get z)
  refine ⟨fun i m H => m = items.length - i ∧ i ≤ items.length ∧ ∃ ρ F ds, R B (T ++ fr ++ [(.lst true ds, .ref A)]) ρ (wipe σ own) H F ∧ ds.length ≤ i ∧ (∀ j ∈ own, ∀ s, ρ.vs[j]? = some s → s = .no) ∧
    (lcL t c elt own (items.drop i) ρ).wp (fun ys ρ2 => Fin (ds ++ ys) ρ2) (exQ B T σ), ⟨items.length, by simp, Nat.zero_le _, _, _, [], r0, Nat.le_refl _, ?_, ?_⟩, ?_⟩
  · intro j hj s e
    rcases fgt_get e with z | ⟨z, _⟩
    · exact z
    · exact absurd hj z
  · exact Out.wp_mono q (fun ys ρ2 q => q) fun _ _ z => z
  · rintro i m H ⟨rfl, hi, ρ, F, ds, r, hds, hno, q⟩
    have k := ok.2 T [(.lst true ds, .ref A)] ρ (wipe σ own) H F r i
    by_cases hlt : i < items.length
    · obtain ⟨d, ed⟩ : ∃ d, items[i]? = some d := ⟨_, List.getElem?_eq_getElem hlt⟩
      obtain ⟨hgo, hy⟩ := k.2 d ed
      have edr : items.drop i = d :: items.drop (i + 1) := by rw [List.drop_eq_getElem_cons hlt]; rw [List.getElem?_eq_getElem hlt] at ed; cases ed; rfl
      rw [edr, lcL] at q
      refine .inr ⟨hgo, fun H' => i + 1 ≤ items.length ∧ ∃ ρ F ds, R B (T ++ fr ++ [(.lst true ds, .ref A)]) ρ (wipe σ own) H' F ∧ ds.length ≤ i + 1 ∧ (∀ j ∈ own, ∀ s, ρ.vs[j]? = some s → s = .no) ∧
        (lcL t c elt own (items.drop (i + 1)) ρ).wp (fun ys ρ2 => Fin (ds ++ ys) ρ2) (exQ B T σ), fun H' ⟨h1, h2⟩ => ⟨items.length - (i + 1), by omega, rfl, h1, h2⟩, fun x H' y => ?_⟩
      obtain ⟨F', r'⟩ := hy x H' y
      split at q
      · exact q.elim
      · rename_i ρ1 e1
        refine hgg _ ρ F' d ρ1 x σ H' _ r' e1 fun σ2 H2 F2 r2 ew => ⟨ew, htt _ _ _ ⟨_, ρ1, F2, r2.mute, ?_⟩⟩
        have back : ∀ {ρ : En} {H : Hp} {F : List Addr} {T' : Tm}, R B.mute T' ρ σ2 H F → R B T' { ρ with vs := fgt ρ.vs own } (wipe σ own) H F := fun {ρ H F T'} z => by
          refine (z.unmute.forget own).slots ?_ (fun j s e => ?_) fun j a q => by rw [← ew]; exact wipe_pin hf q
          · rw [← ew]; exact wipe_length _ _
          · rcases fgt_get e with z | ⟨z, _⟩
            · exact .inl z
            · rw [← ew]; exact .inr (wipe_get z)
        have backNo : ∀ {vs : List Sv}, ∀ j ∈ own, ∀ s, (fgt vs own)[j]? = some s → s = .no := fun {vs} j hj s e => by
          rcases fgt_get e with z | ⟨z, _⟩
          · exact z
          · exact absurd hj z
        refine noEx_wp (Out.wp_bind q) fun b ρ2 q H3 F3 r3 => ?_
        · cases b with
          | true =>
            rw [if_pos rfl] at q ⊢
            refine hte _ _ _ ⟨_, ρ2, F3, r3, noEx_wp (Out.wp_bind q) fun y ρ3 q v H4 F4 r4 => ?_⟩
            · obtain ⟨vs, hvs, hlen, app⟩ := r4.app
              have hz : vs.length < sizeLine := by
                have := ok.1
                omega
              refine ⟨vs, hvs, hz, hlt, _, F4, ds ++ [y], back (app hz), by simp; omega, backNo, ?_⟩
              exact Out.wp_mono (Out.wp_bind q) (fun ys ρ4 (q : Fin (ds ++ (y :: ys)) ρ4) => by rw [List.append_assoc]; exact q) fun _ _ z => z
          | false =>
            rw [if_neg (by simp)] at q ⊢
            exact ⟨hlt, _, F3, ds, back r3, by omega, backNo, q⟩
    · have e : i = items.length := by omega
      subst e
      rw [List.drop_length, lcL] at q
      refine .inl ⟨k.1 (Nat.le_refl _), hfin _ _ (.ref A) H F (by have q : Fin (ds ++ []) ρ := q; rw [List.append_nil] at q; exact q) ?_⟩
      refine r.slots ?_ (fun j s e => ?_) fun j a q => (wipe_pin hf q).symm
      · rw [hwl]
      · by_cases hj : j ∈ own
        · exact .inl (hno j hj s e)
        · exact .inr (wipe_get hj).symm
theorem lc_run {c : En → Out Bool} {elt : En → Out D} {own : List Nat} (hf : B.free own = true) {σ : L2.St} {H : Hp} {Q : VK} {tt : TT} {te : TE}
    (htt : ∀ σ H Q, cT B.mute c σ H Q → tt σ H Q) (hte : ∀ σ H Q, cE B.mute elt σ H Q → te σ H Q) (gt : TG)
    (hgg : ∀ (T : Tm) (ρ : En) (F : List Addr) (d : D) (ρ' : En) (v : V) (σ : L2.St) (H : Hp) (Q : L2.St → Hp → Prop), R B (T ++ [(d, v)]) ρ (wipe σ own) H F → t d ρ = some ρ' → (∀ σ' H' F', R B T ρ' σ' H' F' → wipe σ' own = wipe σ own → Q σ' H') → gt v (wipe σ own) H Q)
    (h : cE B (evLc it t c elt own) σ H Q) : tLc (cI B it) gt tt te own σ H Q := by
  obtain ⟨T, ρ, F, r, q⟩ := h
  refine ⟨T, ρ, F, r, Out.wp_mono (Out.wp_bind q) (fun items ρ' q J H1 F1 fr r1 ok A hA => ?_) fun _ _ z => z⟩
  exact lc_mid hf htt hte gt hgg r1 ok (fun (ds : List D) ρ2 => ∀ v H' F', R B (T ++ [(D.lst true ds, v)]) ρ2 σ H' F' → Q v H') (fun ds ρ2 v H' F' q r => q v H' F' (R.dropMid r)) (Out.wp_mono (Out.wp_bind q) (fun ys ρ2 q => q) fun _ _ z => z) A hA
theorem wipe_eq {own : List Nat} {a b : L2.St} (hl : a.length = b.length) (h : ∀ j, j ∉ own → a[j]? = b[j]?) : wipe a own = wipe b own := by
  apply List.ext_getElem?
  intro j
  by_cases hj : j ∈ own
  · have key : ∀ (l : List Nat) (a : L2.St), j ∈ l → j < a.length → (wipe a l)[j]? = some none := by
      intro l
      induction l with
      | nil => intro a z; cases z
      | cons v vs ih =>
        intro a z hlt
        unfold wipe
        by_cases e : v = j
        · subst e; rw [List.getElem?_set_self (by rw [wipe_length]; exact hlt)]
        · rw [List.getElem?_set_ne e]
          exact ih a ((List.mem_cons.mp z).resolve_left fun q => e q.symm) hlt
    by_cases hlt : j < a.length
    · rw [key own a hj hlt, key own b hj (hl ▸ hlt)]
    · rw [List.getElem?_eq_none (by rw [wipe_length]; omega), List.getElem?_eq_none (by rw [wipe_length]; omega)]
  · rw [wipe_out hj, wipe_out hj, h j hj]
theorem wipe_wipe {own : List Nat} {σ : L2.St} : wipe (wipe σ own) own = wipe σ own := wipe_eq (wipe_length _ _) fun j hj => wipe_out hj
theorem set_out {own : List Nat} {σ : L2.St} {i : Nat} {x : Option V} (hi : i ∈ own) : wipe (σ.set i x) own = wipe σ own := wipe_eq (by simp) fun j hj => List.getElem?_set_ne (by rintro rfl; exact hj hi)
theorem gg_name {own : List Nat} {i : Nat} (hf : B.free own = true) (hi : i ∈ own) (T : Tm) (ρ : En) (F : List Addr) (d : D) (ρ' : En) (v : V) (σ : L2.St) (H : Hp) (Q : L2.St → Hp → Prop) (r : R B (T ++ [(d, v)]) ρ (wipe σ own) H F) (e : tgN i d ρ = some ρ')
    (q : ∀ σ' H' F', R B T ρ' σ' H' F' → wipe σ' own = wipe σ own → Q σ' H') : gName i v (wipe σ own) H Q := by
  cases e
  exact q _ _ _ (r.store (by have := Bs.freeL hf hi; unfold Bs.free; simp [this])) (by rw [set_out hi, wipe_wipe])
def gTupN (K : PySem.W.Frag) (is : List Nat) : TG := gTup K is.length (gNames is)
theorem names_mono : ∀ {is : List Nat} {vs : List V} {σ : L2.St} {H : Hp} {Q Q' : L2.St → Hp → Prop}, (∀ σ H, Q σ H → Q' σ H) → gNames is vs σ H Q → gNames is vs σ H Q'
  | [], _, _, _, _, _, w, ⟨h1, h2⟩ => ⟨h1, w _ _ h2⟩
  | _ :: _, _, _, _, _, _, w, ⟨v, r, e, h⟩ => ⟨v, r, e, names_mono w h⟩
theorem names_wipe {own : List Nat} : ∀ {is : List Nat} {vs : List V} {σ : L2.St} {H : Hp} {Q : L2.St → Hp → Prop}, (∀ i ∈ is, i ∈ own) → gNames is vs σ H (fun σ' H' => wipe σ' own = wipe σ own → Q σ' H') → gNames is vs σ H Q
  | [], _, _, _, _, _, ⟨h1, h2⟩ => ⟨h1, h2 rfl⟩
  | i :: is, _, _, _, _, hi, ⟨v, r, e, h⟩ => ⟨v, r, e, names_wipe (fun j hj => hi j (List.mem_cons_of_mem _ hj)) (names_mono (fun σ' H' h w => h (by rw [w, set_out (hi i List.mem_cons_self)])) h)⟩
theorem setsh_len : ∀ {is : List Nat} {vs : List Sv} {ds : List D} {svs : List Sv}, setsh vs is ds = some svs → ds.length = is.length := by
  intro is
  induction is with
  | nil => intro vs ds svs e; cases ds with
    | nil => rfl
    | cons d ds => cases e
  | cons i is ih => intro vs ds svs e; cases ds with
    | nil => cases e
    | cons d ds => simp [ih e]
theorem gg_tup {K : PySem.W.Frag} {own is : List Nat} (hf : B.free own = true) (hi : ∀ i ∈ is, i ∈ own) (T : Tm) (ρ : En) (F : List Addr) (d : D) (ρ' : En) (v : V) (σ : L2.St) (H : Hp) (Q : L2.St → Hp → Prop) (r : R B (T ++ [(d, v)]) ρ (wipe σ own) H F) (e : tgT is d ρ = some ρ')
    (q : ∀ σ' H' F', R B T ρ' σ' H' F' → wipe σ' own = wipe σ own → Q σ' H') : gTupN K is v (wipe σ own) H Q := by
  obtain ⟨F', r1, rd⟩ := freezeTmp r
  unfold tgT at e
  split at e
  · rename_i ds ed
    rw [ed] at rd
    cases rd with
    | @tup a vs _ _ h rl =>
      cases e1 : setsh ρ.vs is ds with
      | none => rw [e1] at e; cases e
      | some svs =>
        rw [e1] at e; cases e
        exact ⟨a, vs, rfl, SqT.of (hid_some h).2, by rw [← rl.length]; exact setsh_len e1, names_wipe hi (names_run (List.all_eq_true.mpr fun i h => List.all_eq_true.mp hf i (hi i h)) r1 rl e1 fun σ' H' F' z w => q σ' H' F' z (by rw [w, wipe_wipe]))⟩
  · cases e
theorem yes_imp : ∀ σ H Q, cT B evYes σ H Q → tYes σ H Q := fun σ H Q ⟨T, ρ, F, r, q⟩ => q _ _ r
theorem id_imp {fc : En → Out Bool} : ∀ σ H Q, cT B fc σ H Q → cT B fc σ H Q := fun _ _ _ z => z
variable {elt : Expr} {ifs : List Expr} {scope : Scope} {own : List (Str × Nat)} {fc : En → Out Bool}
/-- [elt for x in iter if ..] -/
theorem ev_lcN {i : Nat} {x : Str} {px : Pos} {tt : TT} (hc : X.calm = true) (hN : X.N.Nodup) (hi : PI X (.Name x px) iter (cI B it)) (ok : BlkOk X.N X.env.scope scope own) (hio : i ∈ own.map (·.2))
    (hg : ∀ (s : Shared) (H : Hp) (C : Addr) (cl : List (Str × Addr)) (fp : List Addr), PG (X.blk s H scope (compEnvC scope cl C X.env) fp) (.Name x px) (gName i))
    (ht : ∀ (s : Shared) (H : Hp) (C : Addr) (cl : List (Str × Addr)) (fp : List Addr), PTs (X.blk s H scope (compEnvC scope cl C X.env) fp) ifs tt) (hti : ∀ σ H Q, cT B.mute fc σ H Q → tt σ H Q)
    (he : ∀ (s : Shared) (H : Hp) (C : Addr) (cl : List (Str × Addr)) (fp : List Addr), PE (X.blk s H scope (compEnvC scope cl C X.env) fp) elt (cE B.mute fe)) (hs : ∀ x, foldedSetIterable iter X.env x = pure x := by intro _; rfl) (hme : B.free (own.map (·.2)) = true := by rfl) :
    PE X (.ListComp elt [⟨.Name x px, iter, ifs, 0⟩] scope pos) (cE B (evLc it (tgN i) fc fe (own.map (·.2)))) :=
  (pe_lc (g := gName i) hc hN hi ok hg ht he hs).imp fun σ H Q h => lc_run hme hti (fun _ _ _ z => z) _ (gg_name hme hio) h
/-- [elt for x, y in iter if ..] -/
theorem ev_lcT {is : List Nat} {es : List Expr} {k : Nat} {px : Pos} {tt : TT} (hc : X.calm = true) (hN : X.N.Nodup) (hi : PI X (.Tuple es k px) iter (cI B it)) (ok : BlkOk X.N X.env.scope scope own) (hio : ∀ i ∈ is, i ∈ own.map (·.2))
    (hg : ∀ (s : Shared) (H : Hp) (C : Addr) (cl : List (Str × Addr)) (fp : List Addr), PG (X.blk s H scope (compEnvC scope cl C X.env) fp) (.Tuple es k px) (gTupN X.K is))
    (ht : ∀ (s : Shared) (H : Hp) (C : Addr) (cl : List (Str × Addr)) (fp : List Addr), PTs (X.blk s H scope (compEnvC scope cl C X.env) fp) ifs tt) (hti : ∀ σ H Q, cT B.mute fc σ H Q → tt σ H Q)
    (he : ∀ (s : Shared) (H : Hp) (C : Addr) (cl : List (Str × Addr)) (fp : List Addr), PE (X.blk s H scope (compEnvC scope cl C X.env) fp) elt (cE B.mute fe)) (hs : ∀ x, foldedSetIterable iter X.env x = pure x := by intro _; rfl) (hme : B.free (own.map (·.2)) = true := by rfl) :
    PE X (.ListComp elt [⟨.Tuple es k px, iter, ifs, 0⟩] scope pos) (cE B (evLc it (tgT is) fc fe (own.map (·.2)))) :=
  (pe_lc (g := gTupN X.K is) hc hN hi ok hg ht he hs).imp fun σ H Q h => lc_run hme hti (fun _ _ _ z => z) _ (gg_tup hme hio) h
/-- y = [elt for x in iter if ..] on one line, y a local name -/
theorem es_setLcN {j : Nat} {y : Str} {py spos : Pos} {i : Nat} {x : Str} {px : Pos} {tt : TT} (hc : X.calm = true) (hN : X.N.Nodup) (hy : X.N[j]? = some y) (hyl : X.env.scope.names.lookup y = some .local)
    (hsw : swapsWith (.ListComp elt [⟨.Name x px, iter, ifs, 0⟩] scope pos) (some (.Name y py)) spos.line X.env = pure true) (hi : PI X (.Name x px) iter (cI B it)) (ok : BlkOk X.N X.env.scope scope own) (hio : i ∈ own.map (·.2))
    (hg : ∀ (s : Shared) (H : Hp) (C : Addr) (cl : List (Str × Addr)) (fp : List Addr), PG (X.blk s H scope (compEnvC scope cl C X.env) fp) (.Name x px) (gName i))
    (ht : ∀ (s : Shared) (H : Hp) (C : Addr) (cl : List (Str × Addr)) (fp : List Addr), PTs (X.blk s H scope (compEnvC scope cl C X.env) fp) ifs tt) (hti : ∀ σ H Q, cT B.mute fc σ H Q → tt σ H Q)
    (he : ∀ (s : Shared) (H : Hp) (C : Addr) (cl : List (Str × Addr)) (fp : List Addr), PE (X.blk s H scope (compEnvC scope cl C X.env) fp) elt (cE B.mute fe)) (hs : ∀ x, foldedSetIterable iter X.env x = pure x := by intro _; rfl) (hme : B.free (own.map (·.2)) = true := by rfl) (hmj : B.free [j] = true := by rfl) :
    PS X (.Assign [.Name y py] (.ListComp elt [⟨.Name x px, iter, ifs, 0⟩] scope pos) spos) (cS B (sAs j (evLc it (tgN i) fc fe (own.map (·.2))))) :=
  es_as (ps_setLc (g := gName i) hc hN hy hyl hsw hi ok hg ht he hs) (fun σ H Q h => lc_run hme hti (fun _ _ _ z => z) _ (gg_name hme hio) h) hmj
theorem es_setLcT {j : Nat} {y : Str} {py spos : Pos} {is : List Nat} {es : List Expr} {k : Nat} {px : Pos} {tt : TT} (hc : X.calm = true) (hN : X.N.Nodup) (hy : X.N[j]? = some y) (hyl : X.env.scope.names.lookup y = some .local)
    (hsw : swapsWith (.ListComp elt [⟨.Tuple es k px, iter, ifs, 0⟩] scope pos) (some (.Name y py)) spos.line X.env = pure true) (hi : PI X (.Tuple es k px) iter (cI B it)) (ok : BlkOk X.N X.env.scope scope own) (hio : ∀ i ∈ is, i ∈ own.map (·.2))
    (hg : ∀ (s : Shared) (H : Hp) (C : Addr) (cl : List (Str × Addr)) (fp : List Addr), PG (X.blk s H scope (compEnvC scope cl C X.env) fp) (.Tuple es k px) (gTupN X.K is))
    (ht : ∀ (s : Shared) (H : Hp) (C : Addr) (cl : List (Str × Addr)) (fp : List Addr), PTs (X.blk s H scope (compEnvC scope cl C X.env) fp) ifs tt) (hti : ∀ σ H Q, cT B.mute fc σ H Q → tt σ H Q)
    (he : ∀ (s : Shared) (H : Hp) (C : Addr) (cl : List (Str × Addr)) (fp : List Addr), PE (X.blk s H scope (compEnvC scope cl C X.env) fp) elt (cE B.mute fe)) (hs : ∀ x, foldedSetIterable iter X.env x = pure x := by intro _; rfl) (hme : B.free (own.map (·.2)) = true := by rfl) (hmj : B.free [j] = true := by rfl) :
    PS X (.Assign [.Name y py] (.ListComp elt [⟨.Tuple es k px, iter, ifs, 0⟩] scope pos) spos) (cS B (sAs j (evLc it (tgT is) fc fe (own.map (·.2))))) :=
  es_as (ps_setLc (g := gTupN X.K is) hc hN hy hyl hsw hi ok hg ht he hs) (fun σ H Q h => lc_run hme hti (fun _ _ _ z => z) _ (gg_tup hme hio) h) hmj

/-! ### defs and their calls -/
inductive Res where
  | ok (d : D) (st : RSt)
  | ex (x : Exc) (st : RSt)
  | no
abbrev Den := List D → RSt → Res
def Ext (S : Gs) (H H' : Hp) : Prop := ∀ a o, H a = some o → a ∉ sA S → H' a = some o
/-- the promise of a def whose meaning is den -/
def spF (cl : Str → Addr) (n : Nat) (den : Den) : Sp := fun vs H Q E => vs.length = n ∧ ∃ S M ds st, S.cl = cl ∧ RpL S H (hid M H) ds vs [] ∧ StOk S st H ∧ (∀ a ∈ sA S, a ∈ M) ∧ (∀ a ∈ M, H a ≠ none) ∧ HLen H ∧ match den ds st with
  | .ok d st' => ∀ v H' Fr, Ext S H H' → StOk S st' H' → HLen H' → (∀ a ∈ Fr, H a = none) → Fr.Nodup → (∀ a ∈ Fr, H' a ≠ none) → Rp S H' (hid (M ++ Fr) H') d v Fr → Q v H'
  | .ex x st' => ∀ cls dd H', XR S x cls dd (hid M H') → Ext S H H' → StOk S st' H' → HLen H' → E cls dd H'
  | .no => False
def evCall (den : Den) (ps : List Opd) : En → Out D := fun ρ => (evOps ps ρ).bind fun ds ρ' => match den (ds.map fz) ρ'.st with
  | .ok d st' => if clo d = true then .ok d { ρ' with st := st' } else .ok d { vs := frzS (isVar ps) 0 ρ'.vs, st := st' }
  | .ex x st' => .ex x { vs := frzS (isVar ps) 0 ρ'.vs, st := st' }
  | .no => .no
/-- where the module's class of a name stands -/
def clsAt (K : PySem.W.Frag) (x : Str) : Addr := match PySem.W.nsIn K mainGlobals x with
  | some (some (.ref C)) => C
  | _ => 0
/-- a def that stands in the module under x and keeps the promise of den, by at most level k -/
def CalOk (P : Program) (w : World) (K : PySem.W.Frag) (mg : Str → Option Value) (base : Heap) (k : Nat) (x : Str) (n : Nat) (den : Den) : Prop :=
  ∃ (f : Addr) (fd : FuncData) (ps : List Str), mg x = some (.ref f) ∧ PySem.W.keepIn K (.ref f) = true ∧ Binds K fd ps [] ∧ FnOk P w K mg base (L2.CX P w) k f fd ps (spF (clsAt K) n den)
/-- only what is an own node stands in F -/
theorem R.thin {B : Bs} {T : Tm} {ρ : En} {σ : L2.St} {H : Hp} {F : List Addr} (h : R B T ρ σ H F) : ∃ F', R B T ρ σ H F' ∧ ∀ a ∈ F', ∀ vs, H a ≠ some (.tup vs) := by
  obtain ⟨fp, p⟩ := h.pt
  let P : Addr → Prop := fun a => ∀ vs, H a ≠ some (.tup vs)
  have dec : DecidablePred P := fun a => Classical.propDecidable _
  have mem : ∀ a, a ∈ F.filter (fun a => decide (P a)) ↔ a ∈ F ∧ P a := fun a => by rw [List.mem_filter, decide_eq_true_eq]
  have keep : ∀ {d : D} {v : V} {Hs : Hp} {G : List Addr}, Rp B.S H Hs d v G → G.filter (fun a => decide (P a)) = G := fun r => List.filter_eq_self.mpr fun a ha => decide_eq_true (r.noTup a ha)
  have up : ∀ a o, hid (B.M ++ F) H a = some o → hid (B.M ++ F.filter (fun a => decide (P a))) H a = some o := fun a o e => by
    obtain ⟨n, e⟩ := hid_some e
    refine hid_of e fun m => n ?_
    rcases List.mem_append.mp m with m | m
    · exact List.mem_append_left _ m
    · exact List.mem_append_right _ ((mem a).mp m).1
  refine ⟨F.filter fun a => decide (P a), { h with pt := ⟨fun i => (fp i).filter fun a => decide (P a), ⟨fun j d v e => ?_, fun i s e => ?_, fun i => (p.nd i).sublist List.filter_sublist, fun i j a hi hj => p.ap i j a ((List.mem_filter.mp hi).1) ((List.mem_filter.mp hj).1), fun i a ha => ?_⟩⟩, dj := fun a ha z => h.dj a ha ((mem a).mp z).1, new := fun a ha => h.new a ((mem a).mp ha).1, own := fun a ha => h.own a ((mem a).mp ha).1 }, fun a ha => ((mem a).mp ha).2⟩
  · have r := p.tm j d v e
    have k := keep r
    show Rp _ _ _ _ _ ((fp (.inl j)).filter _)
    rw [k]
    exact r.mono (fun _ _ _ z => z) up
  · cases s with
    | no => trivial
    | sh d =>
      obtain ⟨v, ev, r⟩ := p.sl i _ e
      exact ⟨v, ev, r.mono (fun _ z => nomatch z) up⟩
    | ow d =>
      obtain ⟨v, ev, r⟩ := p.sl i _ e
      refine ⟨v, ev, ?_⟩
      have k := keep r
      show Rp _ _ _ _ _ ((fp (.inr i)).filter _)
      rw [k]
      exact r.mono (fun _ _ _ z => z) up
  · exact (mem a).mpr ⟨p.sub i a ((List.mem_filter.mp ha).1), of_decide_eq_true (List.mem_filter.mp ha).2⟩
theorem call_run {cl : Str → Addr} (hcl : B.S.cl = cl) {n : Nat} {den : Den} {ps : List Opd} {W : WX} (hW : B.W = W) {σ : L2.St} {H : Hp} {Q : VK} (h : cE B (evCall den ps) σ H Q) (hn : ps.length = n) : tOps B ps σ H fun vs H' => spF cl n den vs H' Q (WE B.W σ) := by
  obtain ⟨T, ρ, F, r, q⟩ := h
  refine ops_run r (Out.wp_mono (Out.wp_bind q) (fun ds ρ' q vs H' F' ts r' o => ?_) fun _ _ z => z)
  obtain ⟨F', r', nt⟩ := r'.thin
  obtain ⟨F1, r1, rl, sub⟩ := r'.shareOps o (isVar ps) (fun _ z => z)
  refine ⟨by rw [← o.len, ops_len o, hn], B.S, B.M ++ F1, ds.map fz, ρ'.st, hcl, rl, r'.st, fun a ha => List.mem_append_left _ (r'.sM a ha), fun a ha => ?_, r'.hl, ?_⟩
  · rcases List.mem_append.mp ha with z | z
    · exact r'.md a z
    · exact r1.own a z
  · cases e : den (ds.map fz) ρ'.st with
    | no => rw [e] at q; exact q.elim
    | ok d st' =>
      rw [e] at q
      dsimp only at q ⊢
      intro v H2 Fr ext stok hl fresh nd own rr
      by_cases hc : clo d = true
      · rw [if_pos hc] at q
        exact q v H2 _ (r'.drop.after ext stok hl fresh nd own (rr.clo hc (fun _ _ _ z => z) fun a us e => by
          obtain ⟨n, e⟩ := hid_some e
          refine hid_of e fun m => ?_
          rcases List.mem_append.mp m with m | m
          · exact n (List.mem_append_left _ (List.mem_append_left _ m))
          · rcases List.mem_append.mp m with m | m
            · cases e1 : H' a with
              | none => exact r'.own a m e1
              | some u =>
                have := ext a u e1 fun z => r'.dj a (r'.sM a z) m
                rw [this] at e
                cases e
                exact nt a m _ e1
            · exact n (List.mem_append_right _ m)))
      · rw [if_neg hc] at q
        exact q v H2 _ (r1.after ext stok hl fresh nd own (by rw [← List.append_assoc]; exact rr))
    | ex x st' =>
      rw [e] at q
      dsimp only at q ⊢
      intro cls dd H2 xr ext stok hl
      have := r1.after (d := .non) (v := .non) (Fr := []) ext stok hl (fun _ z => nomatch z) List.nodup_nil (fun _ z => nomatch z) .non
      exact q cls dd H2 _ (by rw [List.append_nil]; exact xr) this.drop
theorem ev_call {x : Str} {p : Pos} {es : List Expr} {ps : List Opd} {k n : Nat} {den : Den} (F : CalOk X.prog X.w X.K X.mg X.base k x n den) (hr : Room k X.A) (hg : Gl X x) (hcl : B.S.cl = clsAt X.K) (tk : Takes X B.W) (ha : EA X B (e :: es) ps) (hn : ps.length = n := by rfl)
    (hdb : (x == ("__debug__" : Str)) = false := by decide) (he : starEach (e :: es) X.env = (false, eval e X.env) :: starEach es X.env := by rfl) (hpl : (backTo pos (starEach es X.env)).any (·.1) = false := by rfl) : PE X (.Call (.Name x p) (e :: es) [] pos) (cE B (evCall den ps)) := by
  obtain ⟨f, fd, pn, hm, hk, hb, G⟩ := F
  exact (pe_callS G hr hg hm hk hb (fun σ => passAt tk σ) ha.run hdb he hpl).imp fun σ H Q h => call_run hcl rfl h hn
end
/-- what the body gives, from the parameters -/
def fnRes (g : En → Out Fl) (k : Nat) : Den := fun ds st => match g ⟨ds.map .sh ++ List.replicate k .no, st⟩ with
  | .ok .nx ρ => .ok .non ρ.st
  | .ok (.rt d) ρ => .ok d ρ.st
  | .ok _ _ => .no
  | .ex x ρ => .ex x ρ.st
  | .no => .no
def BodyOk (P : Program) (w : World) (K : PySem.W.Frag) (mg : Str → Option Value) (base : Heap) (N : List Str) (qual : Str) (st : Stmt) (f : Addr) (k : Nat) (g : En → Out Fl) : Prop :=
  ∀ (cdv : Value) (A : Around) (outer : List Env) (s : Shared) (H : Hp) (E : XK) (S : Gs) (M : List Addr), S.cl = clsAt K → Room k (A.deeper (envOfC qual (defScope st) s.heap.objs.size f cdv)) →
    PSs (cxOf (L2.CX P w) P w K mg base N qual (defScope st) f cdv A outer s H E) (defBody st) (cS ⟨H, S, M, fun cls d _ H' => E cls d H', fun _ => none⟩ g)
section
variable {P : Program} {w : World} {K : PySem.W.Frag} {mg : Str → Option Value} {base : Heap}
theorem start_R {S : Gs} {M : List Addr} {W : WX} {N : List Str} {ds : List D} {vs : List V} {H : Hp} {st : RSt} {k : Nat} (rl : RpL S H (hid M H) ds vs []) (ok : StOk S st H) (sM : ∀ a ∈ sA S, a ∈ M) (md : ∀ a ∈ M, H a ≠ none) (hl : HLen H) (hk : N.length = vs.length + k) :
    R ⟨H, S, M, W, fun _ => none⟩ [] ⟨ds.map .sh ++ List.replicate k .no, st⟩ (L2.start N vs) H [] := by
  have e : N.length - vs.length = k := by omega
  refine ⟨by simp [L2.start, rl.length, e], ⟨fun _ => [], (fun j d v z => by simp at z), fun i s z => ?_, fun _ => List.nodup_nil, (fun _ _ _ z => nomatch z), (fun _ _ z => nomatch z)⟩, (fun _ _ z => nomatch z), sM, md, ok, (fun _ _ z _ => z), (fun _ z => nomatch z), hl, (fun _ z => nomatch z), (fun _ _ z => nomatch z)⟩
  dsimp only at z ⊢
  rw [List.append_nil]
  by_cases hi : i < ds.length
  · rw [List.getElem?_append_left (by simpa using hi), List.getElem?_map] at z
    cases e1 : ds[i]? with
    | none => rw [e1] at z; cases z
    | some d =>
      rw [e1] at z; cases z
      obtain ⟨v, hv, r⟩ := rl.get0 e1
      refine ⟨v, ?_, r⟩
      unfold L2.start
      rw [List.getElem?_append_left (by rw [List.length_map, ← rl.length]; exact hi), List.getElem?_map, hv]; rfl
  · rw [List.getElem?_append_right (by simpa using Nat.le_of_not_lt hi), List.getElem?_replicate] at z
    split at z
    · cases z; trivial
    · cases z
theorem fn_ok {x qual : Str} {st : Stmt} {f : Addr} {fd : FuncData} {N ps : List Str} {k : Nat} {g : En → Out Fl} (F : Fun K x qual st f fd) (Sc : FnScope N ps (defScope st)) (j : Nat) (hk : N.length = ps.length + j) (h : BodyOk P w K mg base N qual st f k g) :
    FnOk P w K mg base (L2.CX P w) (k + 1) f fd ps (spF (clsAt K) ps.length (fnRes g j)) := by
  refine F.okX Sc (fun vs H Q E h => h.1) fun cdv A outer s H vs Q E hr ⟨hn, S, M, ds, st', hcl, rl, ok, sM, md, hl, q⟩ => ?_
  refine ⟨_, h cdv A outer s H E S M hcl hr, [], _, [], start_R (W := fun cls d _ H' => E cls d H') rl ok sM md hl (by rw [hn]; exact hk), ?_⟩
  unfold fnRes at q
  cases e : g ⟨ds.map .sh ++ List.replicate j .no, st'⟩ with
  | no => rw [e] at q; exact q.elim
  | ex x ρ =>
    rw [e] at q
    exact fun cls d σ H' F' xr r => q cls d H' (xr.mono fun a o z => by
      obtain ⟨n, z⟩ := hid_some z
      exact hid_of z fun m => n (List.mem_append_left _ m)) (fun a o z n => r.ext a o z n) r.st r.hl
  | ok fl ρ =>
    rw [e] at q
    cases fl with
    | nx =>
      intro σ H' F' r
      exact q _ H' [] (fun a o z n => r.ext a o z n) r.st r.hl (fun _ z => nomatch z) List.nodup_nil (fun _ z => nomatch z) .non
    | rt d =>
      intro v σ H' F' r
      obtain ⟨fp, p⟩ := r.pt
      have rv := p.tm 0 d v (by simp)
      have hs := p.sub (.inl 0)
      refine q v H' (fp (.inl 0)) (fun a o z n => r.ext a o z n) r.st r.hl (fun a ha => r.new a (hs a ha)) (p.nd _) (fun a ha => r.own a (hs a ha)) (rv.mono (fun _ _ _ z => z) fun a o e => ?_)
      obtain ⟨n, e⟩ := hid_some e
      refine hid_of e fun m => n ?_
      rcases List.mem_append.mp m with m | m
      · exact List.mem_append_left _ m
      · exact List.mem_append_right _ (hs a m)
    | bk => exact q.elim
    | ct => exact q.elim
theorem cal_ok {x qual : Str} {st : Stmt} {f : Addr} {fd : FuncData} {N ps : List Str} {k : Nat} {g : En → Out Fl} (F : Fun K x qual st f fd) (hm : mg x = some (.ref f)) (b : Binds K fd ps []) (Sc : FnScope N ps (defScope st)) (j n : Nat) (hk : N.length = ps.length + j) (hn : ps.length = n) (h : BodyOk P w K mg base N qual st f k g) :
    CalOk P w K mg base (k + 1) x n (fnRes g j) := ⟨f, fd, ps, hm, F.kp, b, by rw [← hn]; exact fn_ok F Sc j hk h⟩
theorem CalOk.mono {k k' : Nat} {x : Str} {n : Nat} {den : Den} (h : CalOk P w K mg base k x n den) (hk : k ≤ k') : CalOk P w K mg base k' x n den := by
  obtain ⟨f, fd, pn, hm, hkp, hb, G⟩ := h
  exact ⟨f, fd, pn, hm, hkp, hb, G.mono hk⟩
end
end Fw

/- part Fw6 -/
namespace Fw
open PySem PySem.Spec PyProof.Rows L2
section
variable {X : Cx} {B : Bs} {T ts : Tm} {ρ : En} {σ : L2.St} {H : Hp} {F : List Addr} {ps : List Opd} {ds : List D} {vs : List V} {Q : VK} {d d1 d2 d3 : D}
theorem OpV.one (h : R B (T ++ ts) ρ σ H F) (o : OpV ρ σ ps ts [d] vs) : ∃ v G, vs = [v] ∧ RpB B H F d v G := by
  obtain ⟨v, G, e, r⟩ := o.at h 0 d rfl
  have hl := o.len
  match vs, hl, e with
  | [x], _, e => cases e; exact ⟨_, G, rfl, r⟩
theorem OpV.two (h : R B (T ++ ts) ρ σ H F) (o : OpV ρ σ ps ts [d1, d2] vs) : ∃ v1 v2 G1 G2, vs = [v1, v2] ∧ RpB B H F d1 v1 G1 ∧ RpB B H F d2 v2 G2 := by
  obtain ⟨v1, G1, e1, r1⟩ := o.at h 0 d1 rfl
  obtain ⟨v2, G2, e2, r2⟩ := o.at h 1 d2 rfl
  have hl := o.len
  match vs, hl, e1, e2 with
  | [x, y], _, e1, e2 => cases e1; cases e2; exact ⟨_, _, G1, G2, rfl, r1, r2⟩
theorem RpB.int {i : Int} {v : V} {G : List Addr} (r : RpB B H F (.int i) v G) : v = .int i := by obtain ⟨r, _⟩ := r; cases r; rfl
theorem RpB.bl {i : Bool} {v : V} {G : List Addr} (r : RpB B H F (.bl i) v G) : v = .bl i := by obtain ⟨r, _⟩ := r; cases r; rfl
theorem RpB.str {i : Str} {v : V} {G : List Addr} (r : RpB B H F (.str i) v G) : v = .str i := by obtain ⟨r, _⟩ := r; cases r; rfl
theorem RpB.non {v : V} {G : List Addr} (r : RpB B H F .non v G) : v = .non := by obtain ⟨r, _⟩ := r; cases r; rfl
/-! ### ints -/
def opI2 (C : Int → Int → Bool) (g : Int → Int → Int) : List D → Option D
  | [.int i, .int j] => if C i j = true then some (.int (g i j)) else none
  | _ => none
theorem opI2_S {C : Int → Int → Bool} {P : Int → Int → Prop} {g : Int → Int → Int} (hC : ∀ i j, C i j = true → P i j) : OpS B (rr2 (rI P fun i j => .int (g i j))) (opI2 C g) := by
  intro T ts ρ σ H F ps ds vs Q d h o e q
  unfold opI2 at e
  split at e
  · split at e
    · cases e
      obtain ⟨v1, v2, G1, G2, rfl, r1, r2⟩ := o.two h
      exact ⟨_, _, r1.int, r2.int, hC _ _ (by assumption), q _ _ _ (h.drop.push (.int _))⟩
    · cases e
  · cases e
def yesC (_ _ : Int) : Bool := true
theorem opI2_0 {g : Int → Int → Int} : OpS B (rr2 (rI0 fun i j => .int (g i j))) (opI2 yesC g) := by
  intro T ts ρ σ H F ps ds vs Q d h o e q
  unfold opI2 at e
  split at e
  · split at e
    · cases e
      obtain ⟨v1, v2, G1, G2, rfl, r1, r2⟩ := o.two h
      exact ⟨_, _, r1.int, r2.int, q _ _ _ (h.drop.push (.int _))⟩
    · cases e
  · cases e
def opC2 (g : Int → Int → Bool) : List D → Option D
  | [.int i, .int j] => some (.bl (g i j))
  | _ => none
theorem opC2_S {g : Int → Int → Bool} : OpS B (rr2 (rI0 fun i j => .bl (g i j))) (opC2 g) := by
  intro T ts ρ σ H F ps ds vs Q d h o e q
  unfold opC2 at e
  split at e
  · cases e
    obtain ⟨v1, v2, G1, G2, rfl, r1, r2⟩ := o.two h
    exact ⟨_, _, r1.int, r2.int, q _ _ _ (h.drop.push (.bl _))⟩
  · cases e
def opNeg : List D → Option D
  | [.int i] => some (.int (-i))
  | _ => none
theorem opNeg_S : OpS B (rr1 (rU fun i => .int (-i))) opNeg := by
  intro T ts ρ σ H F ps ds vs Q d h o e q
  unfold opNeg at e
  split at e
  · cases e
    obtain ⟨v1, G1, rfl, r1⟩ := o.one h
    exact ⟨_, r1.int, q _ _ _ (h.drop.push (.int _))⟩
  · cases e
/-! ### sequences -/
/-- a list (true) or tuple whose items are nobody's -/
def seqOf : D → Option (Bool × List D)
  | .lst false xs => some (true, xs)
  | .lst true xs => if shrL xs = true then some (true, xs) else none
  | .tup xs => if shrL xs = true then some (false, xs) else none
  | _ => none
theorem seqOf_rp {v : V} {G : List Addr} {b : Bool} {xs : List D} (r : RpB B H F d v G) (e : seqOf d = some (b, xs)) :
    ∃ a vs, v = .ref a ∧ (if b = true then H a = some (.lst vs) else H a = some (.tup vs)) ∧ RpL B.S H (hid (B.M ++ F) H) xs vs [] := by
  obtain ⟨r, hG⟩ := r
  unfold seqOf at e
  split at e
  · cases e
    cases r with
    | lstS h r => exact ⟨_, _, rfl, by rw [if_pos rfl]; exact (hid_some h).2, r⟩
  · split at e
    · cases e
      cases r with
      | lstO h r =>
        rename_i hs a vs F1
        have := r.shr hs
        rw [this] at r
        exact ⟨_, _, rfl, by rw [if_pos rfl]; exact h, r⟩
    · cases e
  · split at e
    · cases e
      cases r with
      | tup h r =>
        rename_i hs a vs
        have := r.shr hs
        rw [this] at r
        exact ⟨_, _, rfl, by rw [if_neg (by simp)]; exact (hid_some h).2, r⟩
    · cases e
  · cases e
theorem seqOf_tup {v : V} {G : List Addr} {xs : List D} (r : RpB B H F d v G) (e : seqOf d = some (false, xs)) : Rp B.S H (hid (B.M ++ F) H) (.tup xs) v [] := by
  obtain ⟨r, hG⟩ := r
  unfold seqOf at e
  split at e
  · cases e
  · split at e <;> cases e
  · split at e
    · cases e
      rename_i hs
      have := r.shr (by rw [shr]; exact hs)
      rw [this] at r
      exact r
    · cases e
  · cases e
/-- several values that are nobody's -/
theorem R.pushL {xs : List D} : ∀ {T : Tm} {vs : List V}, R B T ρ σ H F → RpL B.S H (hid (B.M ++ F) H) xs vs [] → R B (T ++ xs.zip vs) ρ σ H F := by
  induction xs with
  | nil => intro T vs h r; simpa using h
  | cons x xs ih =>
    intro T vs h r
    cases vs with
    | nil => simpa using h
    | cons v vs =>
      obtain ⟨r1, r2⟩ := r.cons_nil
      have := ih (h.push r1) r2
      rw [List.append_assoc] at this
      exact this
theorem zip_fst {xs : List D} {vs : List V} (h : xs.length = vs.length) : (xs.zip vs).map (·.1) = xs := by
  rw [List.map_fst_zip]; omega
theorem zip_snd {xs : List D} {vs : List V} (h : xs.length = vs.length) : (xs.zip vs).map (·.2) = vs := by
  rw [List.map_snd_zip]; omega
/-- a new list, a new tuple of items that are nobody's -/
theorem R.newL {xs : List D} {vs : List V} {p : Addr} (h : R B T ρ σ H F) (r : RpL B.S H (hid (B.M ++ F) H) xs vs []) (hp : H p = none) (hz : vs.length ≤ sizeLine) : R B (T ++ [(.lst true xs, .ref p)]) ρ σ (upd H p (.lst vs)) (p :: F) := by
  have hl := r.length
  have := (h.pushL r).mkLst hp (by rw [List.length_zip]; omega)
  rw [zip_fst hl, zip_snd hl] at this
  exact this
theorem R.newT {xs : List D} {vs : List V} {p : Addr} (h : R B T ρ σ H F) (r : RpL B.S H (hid (B.M ++ F) H) xs vs []) (hp : H p = none) (hz : vs.length ≤ sizeLine) : R B (T ++ [(.tup xs, .ref p)]) ρ σ (upd H p (.tup vs)) F := by
  have hl := r.length
  have := (h.pushL r).mkTup hp (by rw [List.length_zip]; omega)
  rw [zip_fst hl, zip_snd hl] at this
  exact this
theorem ifL {b : Bool} {a : Addr} {K : PySem.W.Frag} {vs : List V} (h : if b = true then H a = some (.lst vs) else H a = some (.tup vs)) : SqL K H a vs ∨ SqT K H a vs := by
  split at h
  · exact .inl (SqL.of h)
  · exact .inr (SqT.of h)
theorem R.len_le {b : Bool} {a : Addr} {vs : List V} (r : R B T ρ σ H F) (h : if b = true then H a = some (.lst vs) else H a = some (.tup vs)) : vs.length ≤ sizeLine := by
  split at h
  · exact r.hl a vs (.inl h)
  · exact r.hl a vs (.inr h)
/-- + : ints, texts, lists, tuples -/
def rAddA (K : PySem.W.Frag) : R2 := fun x y H Q => ((rI0 fun i j => V.int (i + j)) x y H Q ∨ (∃ i j, x = .str i ∧ y = .str j ∧ i.length + j.length ≤ sizeLine ∧ Q (.str (i ++ j)) H)) ∨ (rCat x y H Q ∨ rCatA K x y H Q)
theorem op_addA : OpR X (binaryOp .Add) (rAddA X.K) := (OpR.or op_add op_add_str).or (op_cat.or op_catA)
def opAdd : List D → Option D
  | [.int i, .int j] => some (.int (i + j))
  | [.str i, .str j] => if i.length + j.length ≤ sizeLine then some (.str (i ++ j)) else none
  | [a, b] => match seqOf a, seqOf b with
    | some (true, xs), some (true, ys) => if xs.length + ys.length ≤ sizeLine then some (.lst true (xs ++ ys)) else none
    | some (false, xs), some (false, ys) => if xs.length + ys.length ≤ sizeLine then some (.tup (xs ++ ys)) else none
    | _, _ => none
  | _ => none
theorem opAdd_S {K : PySem.W.Frag} : OpS B (rr2 (rAddA K)) opAdd := by
  intro T ts ρ σ H F ps ds vs Q d h o e q
  unfold opAdd at e
  split at e
  · cases e
    obtain ⟨v1, v2, G1, G2, rfl, r1, r2⟩ := o.two h
    exact .inl (.inl ⟨_, _, r1.int, r2.int, q _ _ _ (h.drop.push (.int _))⟩)
  · split at e
    · cases e
      obtain ⟨v1, v2, G1, G2, rfl, r1, r2⟩ := o.two h
      exact .inl (.inr ⟨_, _, r1.str, r2.str, by assumption, q _ _ _ (h.drop.push (.str _))⟩)
    · cases e
  · obtain ⟨v1, v2, G1, G2, rfl, r1, r2⟩ := o.two h
    split at e
    · rename_i e1 e2
      split at e
      · cases e
        obtain ⟨a, vs, rfl, ha, ra⟩ := seqOf_rp r1 e1
        obtain ⟨b, ws, rfl, hb, rb⟩ := seqOf_rp r2 e2
        rw [if_pos rfl] at ha hb
        have hz : vs.length + ws.length ≤ sizeLine := by rw [← ra.length, ← rb.length]; assumption
        exact .inr (.inl ⟨a, b, vs, ws, rfl, rfl, ha, hb, hz, fun p hp => q _ _ _ (h.drop.newL (ra.append rb) hp (by rw [List.length_append]; exact hz))⟩)
      · cases e
    · rename_i e1 e2
      split at e
      · cases e
        obtain ⟨a, vs, rfl, ha, ra⟩ := seqOf_rp r1 e1
        obtain ⟨b, ws, rfl, hb, rb⟩ := seqOf_rp r2 e2
        rw [if_neg (by simp)] at ha hb
        have hz : vs.length + ws.length ≤ sizeLine := by rw [← ra.length, ← rb.length]; assumption
        refine .inr (.inr ⟨a, b, vs, ws, rfl, rfl, SqT.of ha, SqT.of hb, hz, fun e => ?_, fun _ e => ?_, fun _ _ p hp => q _ _ _ (h.drop.newT (ra.append rb) hp (by rw [List.length_append]; exact hz))⟩)
        · subst e
          have e0 := List.eq_nil_of_length_eq_zero ra.length
          subst e0
          exact q _ _ _ (h.drop.push (seqOf_tup r2 e2))
        · subst e
          have e0 := List.eq_nil_of_length_eq_zero rb.length
          subst e0
          rw [List.append_nil] at q
          exact q _ _ _ (h.drop.push (seqOf_tup r1 e1))
      · cases e
    · cases e
  · cases e

theorem seqOf_lst {v : V} {G : List Addr} {xs : List D} (r : RpB B H F d v G) (e : seqOf d = some (true, xs)) : ∃ a vs, v = .ref a ∧ H a = some (.lst vs) ∧ RpL B.S H (hid (B.M ++ F) H) xs vs [] := by
  obtain ⟨a, vs, h1, h2, h3⟩ := seqOf_rp r e
  exact ⟨a, vs, h1, by rw [if_pos rfl] at h2; exact h2, h3⟩
theorem seqOf_tp {v : V} {G : List Addr} {xs : List D} (r : RpB B H F d v G) (e : seqOf d = some (false, xs)) : ∃ a vs, v = .ref a ∧ H a = some (.tup vs) ∧ RpL B.S H (hid (B.M ++ F) H) xs vs [] := by
  obtain ⟨a, vs, h1, h2, h3⟩ := seqOf_rp r e
  exact ⟨a, vs, h1, by rw [if_neg (by simp)] at h2; exact h2, h3⟩
/-- * : ints, a list so many times -/
def rMulA : R2 := fun x y H Q => (rI CMul fun i j => .int (i * j)) x y H Q ∨ rRep x y H Q
theorem op_mulA : OpR X (binaryOp .Mult) rMulA := OpR.or op_mul op_rep
def repL (xs : List D) : Nat → List D
  | 0 => []
  | n + 1 => xs ++ repL xs n
def opMul : List D → Option D
  | [.int i, .int j] => if (decide (-(2 ^ 64) < i) && decide (i < 2 ^ 64)) || (decide (-(2 ^ 64) < j) && decide (j < 2 ^ 64)) then some (.int (i * j)) else none
  | [a, .int k] => match seqOf a with
    | some (true, xs) => if decide (-(2 ^ 63) ≤ k) && decide (k < 2 ^ 63) && decide (xs.length * k.toNat ≤ sizeLine) then some (.lst true (repL xs k.toNat)) else none
    | _ => none
  | _ => none
theorem RpL.rep {S : Gs} {H Hs : Hp} {xs : List D} {vs : List V} (h : RpL S H Hs xs vs []) : ∀ n, RpL S H Hs (repL xs n) (List.replicate n vs).flatten []
  | 0 => .nil
  | n + 1 => by rw [repL, List.replicate_succ, List.flatten_cons]; exact RpL.append (F := []) (G := []) h (RpL.rep h n)
theorem repL_len (xs : List D) : ∀ n, (repL xs n).length = n * xs.length
  | 0 => by simp [repL]
  | n + 1 => by rw [repL, List.length_append, repL_len xs n, Nat.succ_mul, Nat.add_comm]
theorem opMul_S : OpS B (rr2 rMulA) opMul := by
  intro T ts ρ σ H F ps ds vs Q d h o e q
  unfold opMul at e
  split at e
  · split at e
    · rename_i hc
      cases e
      obtain ⟨v1, v2, G1, G2, rfl, r1, r2⟩ := o.two h
      simp only [Bool.or_eq_true, Bool.and_eq_true, decide_eq_true_eq] at hc
      exact .inl ⟨_, _, r1.int, r2.int, hc, q _ _ _ (h.drop.push (.int _))⟩
    · cases e
  · split at e
    · rename_i e1
      split at e
      · rename_i hc
        cases e
        obtain ⟨v1, v2, G1, G2, rfl, r1, r2⟩ := o.two h
        obtain ⟨a, vs, rfl, ha, ra⟩ := seqOf_lst r1 e1
        simp only [Bool.and_eq_true, decide_eq_true_eq] at hc
        refine .inr ⟨a, _, vs, rfl, r2.int, ha, hc.1.1, hc.1.2, by rw [← ra.length]; exact hc.2, fun p hp => q _ _ _ (h.drop.newL (ra.rep _) hp ?_)⟩
        rw [← (ra.rep _).length, repL_len, Nat.mul_comm]
        exact hc.2
      · cases e
    · cases e
  · cases e
/-! ### scalars compared -/
def eqS : D → D → Option Bool
  | .int i, .int j => some (decide (i = j))
  | .str i, .str j => some (decide (i = j))
  | .bl i, .bl j => some (decide (i = j))
  | .non, .non => some true
  | .non, .int _ => some false
  | .int _, .non => some false
  | .non, .str _ => some false
  | .str _, .non => some false
  | .int _, .str _ => some false
  | .str _, .int _ => some false
  | _, _ => none
theorem eqS_rp {v1 v2 : V} {G1 G2 : List Addr} {b : Bool} (r1 : RpB B H F d1 v1 G1) (r2 : RpB B H F d2 v2 G2) (e : eqS d1 d2 = some b) : scal v1 v2 = true ∧ decide (v1 = v2) = b := by
  obtain ⟨r1, _⟩ := r1
  obtain ⟨r2, _⟩ := r2
  unfold eqS at e
  split at e <;> first | cases e | skip
  all_goals (cases r1; cases r2)
  · exact ⟨rfl, by rw [dec_int]; exact Bool.beq_eq_decide_eq _ _⟩
  · exact ⟨rfl, decide_eq_decide.mpr ⟨fun h => by injection h, fun h => by rw [h]⟩⟩
  · exact ⟨rfl, by rw [dec_bl]; exact Bool.beq_eq_decide_eq _ _⟩
  all_goals first | exact ⟨rfl, rfl⟩ | exact ⟨rfl, by simp⟩
/-! ### len, items, slices -/
def rLenA (K : PySem.W.Frag) : List V → Hp → VK → Prop := fun xs H Q => ((∃ p ys, xs = [.ref p] ∧ (SqL K H p ys ∨ SqT K H p ys) ∧ Q (.int ys.length) H) ∨ (∃ z, xs = [.str z] ∧ z.length ≤ sizeLine ∧ Q (.int z.length) H))
theorem call_lenA : CallR X (.builtin "len") (rLenA X.K) := CallR.or call_len_seq call_len_str
def opLen : List D → Option D
  | [.str z] => if z.length ≤ sizeLine then some (.int z.length) else none
  | [.lst _ xs] => some (.int xs.length)
  | [.tup xs] => some (.int xs.length)
  | _ => none
theorem lst_rp {v : V} {G : List Addr} {o : Bool} {xs : List D} (r : RpB B H F (.lst o xs) v G) : ∃ a vs, v = .ref a ∧ H a = some (.lst vs) ∧ xs.length = vs.length := by
  obtain ⟨r, _⟩ := r
  cases r with
  | lstS h r => exact ⟨_, _, rfl, (hid_some h).2, r.length⟩
  | lstO h r => exact ⟨_, _, rfl, h, r.length⟩
theorem tup_rp {v : V} {G : List Addr} {xs : List D} (r : RpB B H F (.tup xs) v G) : ∃ a vs, v = .ref a ∧ H a = some (.tup vs) ∧ xs.length = vs.length := by
  obtain ⟨r, _⟩ := r
  cases r with
  | tup h r => exact ⟨_, _, rfl, (hid_some h).2, r.length⟩
theorem opLen_S {K : PySem.W.Frag} : OpS B (rLenA K) opLen := by
  intro T ts ρ σ H F ps ds vs Q d h o e q
  unfold opLen at e
  split at e
  · split at e
    · cases e
      obtain ⟨v1, G1, rfl, r1⟩ := o.one h
      exact .inr ⟨_, by rw [r1.str], by assumption, q _ _ _ (h.drop.push (.int _))⟩
    · cases e
  · cases e
    obtain ⟨v1, G1, rfl, r1⟩ := o.one h
    obtain ⟨a, vs, rfl, ha, hl⟩ := lst_rp r1
    exact .inl ⟨a, vs, rfl, .inl (SqL.of ha), q _ _ _ (h.drop.push (by rw [hl]; exact .int _))⟩
  · cases e
    obtain ⟨v1, G1, rfl, r1⟩ := o.one h
    obtain ⟨a, vs, rfl, ha, hl⟩ := tup_rp r1
    exact .inl ⟨a, vs, rfl, .inr (SqT.of ha), q _ _ _ (h.drop.push (by rw [hl]; exact .int _))⟩
  · cases e
def opIx : List D → Option D
  | [a, .int i] => match seqOf a with
    | some (_, xs) => atI xs i
    | none => match a with
      | .str z => if z.length ≤ sizeLine then (atI z.cps.toList i).map fun c => .str ⟨#[c]⟩ else none
      | _ => none
  | _ => none
theorem atI_rp {S : Gs} {H Hs : Hp} {xs : List D} {vs : List V} {i : Int} (r : RpL S H Hs xs vs []) (e : atI xs i = some d) : ∃ v, atI vs i = some v ∧ Rp S H Hs d v [] := by
  unfold atI at e ⊢
  obtain ⟨j, h1, h2⟩ := Option.bind_eq_some_iff.mp e
  obtain ⟨v, h3, h4⟩ := r.get0 h2
  exact ⟨v, by rw [← r.length, h1]; exact h3, h4⟩
theorem opIx_S {K : PySem.W.Frag} : OpS B (rr2 (rIx K)) opIx := by
  intro T ts ρ σ H F ps ds vs Q d h o e q
  unfold opIx at e
  split at e
  · obtain ⟨v1, v2, G1, G2, rfl, r1, r2⟩ := o.two h
    split at e
    · rename_i b xs e1
      obtain ⟨a, vs, rfl, ha, ra⟩ := seqOf_rp r1 e1
      obtain ⟨v, hv, rv⟩ := atI_rp ra e
      have fin := q v H F (h.drop.push rv)
      split at ha
      · exact .inl ⟨a, vs, _, v, rfl, r2.int, SqL.of ha, hv, fin⟩
      · exact .inr (.inl ⟨a, vs, _, v, rfl, r2.int, SqT.of ha, hv, fin⟩)
    · split at e
      · split at e
        · rename_i z _ hz
          cases ec : atI z.cps.toList _ with
          | none => rw [ec] at e; cases e
          | some c =>
            rw [ec] at e; cases e
            exact .inr (.inr ⟨z, _, c, r1.str, r2.int, hz, ec, q _ _ _ (h.drop.push (.str _))⟩)
        · cases e
      · cases e
  · cases e

/-! ### conversions and other calls -/
theorem OpS.or {r r' : List V → Hp → VK → Prop} {o : List D → Option D} (h : OpS B r o) : OpS B (fun xs H Q => r xs H Q ∨ r' xs H Q) o := fun hr ho e q => .inl (h hr ho e q)
def opList : List D → Option D
  | [a] => (seqOf a).map fun p => .lst true p.2
  | _ => none
def rListA (K : PySem.W.Frag) : List V → Hp → VK → Prop := fun xs H Q => ∃ p ys, xs = [.ref p] ∧ (SqL K H p ys ∨ SqT K H p ys) ∧ ∀ l, H l = none → Q (.ref l) (upd H l (.lst ys))
theorem opList_S {K : PySem.W.Frag} : OpS B (rListA K) opList := by
  intro T ts ρ σ H F ps ds vs Q d h o e q
  unfold opList at e
  split at e
  · obtain ⟨v1, G1, rfl, r1⟩ := o.one h
    obtain ⟨⟨b, xs⟩, e1, e2⟩ := Option.map_eq_some_iff.mp e
    cases e2
    obtain ⟨a, vs, rfl, ha, ra⟩ := seqOf_rp r1 e1
    exact ⟨a, vs, rfl, ifL ha, fun p hp => q _ _ _ (h.drop.newL ra hp (h.len_le ha))⟩
  · cases e
def opTuple : List D → Option D
  | [a] => (seqOf a).map fun p => .tup p.2
  | _ => none
def rTupA (K : PySem.W.Frag) : List V → Hp → VK → Prop := fun xs H Q => ∃ p ys, xs = [.ref p] ∧ ((SqL K H p ys ∧ ∀ l, H l = none → Q (.ref l) (upd H l (.tup ys))) ∨ (SqT K H p ys ∧ Q (.ref p) H))
theorem opTuple_S {K : PySem.W.Frag} : OpS B (rTupA K) opTuple := by
  intro T ts ρ σ H F ps ds vs Q d h o e q
  unfold opTuple at e
  split at e
  · obtain ⟨v1, G1, rfl, r1⟩ := o.one h
    obtain ⟨⟨b, xs⟩, e1, e2⟩ := Option.map_eq_some_iff.mp e
    cases e2
    cases b with
    | true =>
      obtain ⟨a, vs, rfl, ha, ra⟩ := seqOf_lst r1 e1
      exact ⟨a, vs, rfl, .inl ⟨SqL.of ha, fun p hp => q _ _ _ (h.drop.newT ra hp (h.hl _ _ (.inl ha)))⟩⟩
    | false =>
      obtain ⟨a, vs, rfl, ha, ra⟩ := seqOf_tp r1 e1
      exact ⟨a, vs, rfl, .inr ⟨SqT.of ha, q _ _ _ (h.drop.push (seqOf_tup r1 e1))⟩⟩
  · cases e
/-- min, max of two ints -/
def opMax2 : List D → Option D
  | [.int i, .int j] => some (.int (if j > i then j else i))
  | _ => none
def opMin2 : List D → Option D
  | [.int i, .int j] => some (.int (if j < i then j else i))
  | _ => none
theorem opMax2_S : OpS B (fun xs H Q => ∃ i j, xs = [.int i, .int j] ∧ Q (.int (if j > i then j else i)) H) opMax2 := by
  intro T ts ρ σ H F ps ds vs Q d h o e q
  unfold opMax2 at e
  split at e
  · cases e
    obtain ⟨v1, v2, G1, G2, rfl, r1, r2⟩ := o.two h
    exact ⟨_, _, by rw [r1.int, r2.int], q _ _ _ (h.drop.push (.int _))⟩
  · cases e
theorem opMin2_S : OpS B (fun xs H Q => ∃ i j, xs = [.int i, .int j] ∧ Q (.int (if j < i then j else i)) H) opMin2 := by
  intro T ts ρ σ H F ps ds vs Q d h o e q
  unfold opMin2 at e
  split at e
  · cases e
    obtain ⟨v1, v2, G1, G2, rfl, r1, r2⟩ := o.two h
    exact ⟨_, _, by rw [r1.int, r2.int], q _ _ _ (h.drop.push (.int _))⟩
  · cases e
def opInt : List D → Option D
  | [.int i] => some (.int i)
  | [.bl b] => some (.int (if b = true then 1 else 0))
  | _ => none
theorem opInt_S : OpS B (fun xs H Q => (∃ i, xs = [.int i] ∧ Q (.int i) H) ∨ ∃ k, xs = [.bl k] ∧ Q (.int (if k then 1 else 0)) H) opInt := by
  intro T ts ρ σ H F ps ds vs Q d h o e q
  unfold opInt at e
  split at e
  · cases e
    obtain ⟨v1, G1, rfl, r1⟩ := o.one h
    exact .inl ⟨_, by rw [r1.int], q _ _ _ (h.drop.push (.int _))⟩
  · cases e
    obtain ⟨v1, G1, rfl, r1⟩ := o.one h
    exact .inr ⟨_, by rw [r1.bl], q _ _ _ (h.drop.push (.int _))⟩
  · cases e
/-- lists of truths, of ints -/
def blsOf : List D → Option (List Bool)
  | [] => some []
  | .bl b :: xs => (blsOf xs).map (b :: ·)
  | _ => none
def intsOf : List D → Option (List Int)
  | [] => some []
  | .int b :: xs => (intsOf xs).map (b :: ·)
  | _ => none
theorem blsOf_rp {S : Gs} {H Hs : Hp} : ∀ {xs : List D} {vs : List V} {F : List Addr} {bs : List Bool}, RpL S H Hs xs vs F → blsOf xs = some bs → vs = bs.map V.bl
  | [], _, _, _, .nil, e => by cases e; rfl
  | .bl b :: xs, _, _, bs, .cons h r, e => by
    rw [blsOf] at e
    obtain ⟨cs, e1, e2⟩ := Option.map_eq_some_iff.mp e
    cases h; subst e2
    rw [blsOf_rp r e1]; rfl
theorem intsOf_rp {S : Gs} {H Hs : Hp} : ∀ {xs : List D} {vs : List V} {F : List Addr} {bs : List Int}, RpL S H Hs xs vs F → intsOf xs = some bs → vs = bs.map V.int
  | [], _, _, _, .nil, e => by cases e; rfl
  | .int b :: xs, _, _, bs, .cons h r, e => by
    rw [intsOf] at e
    obtain ⟨cs, e1, e2⟩ := Option.map_eq_some_iff.mp e
    cases h; subst e2
    rw [intsOf_rp r e1]; rfl
theorem ints_rpl {S : Gs} {H Hs : Hp} : ∀ ns : List Int, RpL S H Hs (ns.map .int) (ns.map V.int) []
  | [] => .nil
  | n :: ns => .cons0 (.int n) (ints_rpl ns)
theorem seqR_lst {v : V} {G : List Addr} {o : Bool} {xs : List D} (r : RpB B H F (.lst o xs) v G) : ∃ a vs G', v = .ref a ∧ H a = some (.lst vs) ∧ RpL B.S H (hid (B.M ++ F) H) xs vs G' := by
  obtain ⟨r, _⟩ := r
  cases r with
  | lstS h r => exact ⟨_, _, _, rfl, (hid_some h).2, r⟩
  | lstO h r => exact ⟨_, _, _, rfl, h, r⟩
def opAll : List D → Option D
  | [.lst _ xs] => (blsOf xs).map fun bs => .bl (bs.all id)
  | _ => none
def opAny : List D → Option D
  | [.lst _ xs] => (blsOf xs).map fun bs => .bl (bs.any id)
  | _ => none
theorem opAll_S {K : PySem.W.Frag} : OpS B (rAll K) opAll := by
  intro T ts ρ σ H F ps ds vs Q d h o e q
  unfold opAll at e
  split at e
  · obtain ⟨v1, G1, rfl, r1⟩ := o.one h
    obtain ⟨bs, e1, e2⟩ := Option.map_eq_some_iff.mp e
    cases e2
    obtain ⟨a, vs, G', rfl, ha, ra⟩ := seqR_lst r1
    exact ⟨a, bs, rfl, by rw [← blsOf_rp ra e1]; exact SqL.of ha, q _ _ _ (h.drop.push (.bl _))⟩
  · cases e
theorem opAny_S {K : PySem.W.Frag} : OpS B (rAny K) opAny := by
  intro T ts ρ σ H F ps ds vs Q d h o e q
  unfold opAny at e
  split at e
  · obtain ⟨v1, G1, rfl, r1⟩ := o.one h
    obtain ⟨bs, e1, e2⟩ := Option.map_eq_some_iff.mp e
    cases e2
    obtain ⟨a, vs, G', rfl, ha, ra⟩ := seqR_lst r1
    exact ⟨a, bs, rfl, by rw [← blsOf_rp ra e1]; exact SqL.of ha, q _ _ _ (h.drop.push (.bl _))⟩
  · cases e
def opSum : List D → Option D
  | [.lst _ xs] => (intsOf xs).map fun bs => .int bs.sum
  | _ => none
theorem opSum_S {K : PySem.W.Frag} : OpS B (rSum K) opSum := by
  intro T ts ρ σ H F ps ds vs Q d h o e q
  unfold opSum at e
  split at e
  · obtain ⟨v1, G1, rfl, r1⟩ := o.one h
    obtain ⟨bs, e1, e2⟩ := Option.map_eq_some_iff.mp e
    cases e2
    obtain ⟨a, vs, G', rfl, ha, ra⟩ := seqR_lst r1
    exact ⟨a, bs, rfl, by rw [← intsOf_rp ra e1]; exact SqL.of ha, q _ _ _ (h.drop.push (.int _))⟩
  · cases e
/-- the greatest, the least of a list of ints -/
def maxI : List Int → Int
  | [] => 0
  | [x] => x
  | x :: y :: xs => max x (maxI (y :: xs))
def minI : List Int → Int
  | [] => 0
  | [x] => x
  | x :: y :: xs => min x (minI (y :: xs))
theorem maxI_spec : ∀ {ns : List Int}, ns ≠ [] → maxI ns ∈ ns ∧ ∀ y ∈ ns, y ≤ maxI ns
  | [x], _ => ⟨by simp [maxI], by simp [maxI]⟩
  | x :: y :: xs, _ => by
    obtain ⟨h1, h2⟩ := maxI_spec (ns := y :: xs) (by simp)
    rw [maxI]
    refine ⟨?_, fun z hz => ?_⟩
    · by_cases hc : x ≤ maxI (y :: xs)
      · rw [Int.max_eq_right hc]; exact List.mem_cons_of_mem _ h1
      · rw [Int.max_eq_left (by omega)]; exact List.mem_cons_self
    · rcases List.mem_cons.mp hz with rfl | hz
      · exact Int.le_max_left _ _
      · exact Int.le_trans (h2 z hz) (Int.le_max_right _ _)
theorem minI_spec : ∀ {ns : List Int}, ns ≠ [] → minI ns ∈ ns ∧ ∀ y ∈ ns, minI ns ≤ y
  | [x], _ => ⟨by simp [minI], by simp [minI]⟩
  | x :: y :: xs, _ => by
    obtain ⟨h1, h2⟩ := minI_spec (ns := y :: xs) (by simp)
    rw [minI]
    refine ⟨?_, fun z hz => ?_⟩
    · by_cases hc : x ≤ minI (y :: xs)
      · rw [Int.min_eq_left hc]; exact List.mem_cons_self
      · rw [Int.min_eq_right (by omega)]; exact List.mem_cons_of_mem _ h1
    · rcases List.mem_cons.mp hz with rfl | hz
      · exact Int.min_le_left _ _
      · exact Int.le_trans (Int.min_le_right _ _) (h2 z hz)
def opMaxL : List D → Option D
  | [.lst _ xs] => (intsOf xs).bind fun bs => if bs.isEmpty = true then none else some (.int (maxI bs))
  | _ => none
theorem opMaxL_S {K : PySem.W.Frag} : OpS B (rMax K) opMaxL := by
  intro T ts ρ σ H F ps ds vs Q d h o e q
  unfold opMaxL at e
  split at e
  · obtain ⟨v1, G1, rfl, r1⟩ := o.one h
    obtain ⟨bs, e1, e2⟩ := Option.bind_eq_some_iff.mp e
    split at e2
    · cases e2
    · rename_i hne
      cases e2
      have hne : bs ≠ [] := by intro z; subst z; simp at hne
      obtain ⟨a, vs, G', rfl, ha, ra⟩ := seqR_lst r1
      refine ⟨a, bs, rfl, by rw [← intsOf_rp ra e1]; exact SqL.of ha, List.length_pos_iff.mpr hne, fun m hm hle => ?_⟩
      obtain ⟨h1, h2⟩ := maxI_spec hne
      have : m = maxI bs := Int.le_antisymm (h2 m hm) (hle _ h1)
      exact q _ _ _ (h.drop.push (by rw [this]; exact .int _))
  · cases e
def opMinL : List D → Option D
  | [.lst _ xs] => (intsOf xs).bind fun bs => if bs.isEmpty = true then none else some (.int (minI bs))
  | _ => none
theorem opMinL_S {K : PySem.W.Frag} : OpS B (rMin K) opMinL := by
  intro T ts ρ σ H F ps ds vs Q d h o e q
  unfold opMinL at e
  split at e
  · obtain ⟨v1, G1, rfl, r1⟩ := o.one h
    obtain ⟨bs, e1, e2⟩ := Option.bind_eq_some_iff.mp e
    split at e2
    · cases e2
    · rename_i hne
      cases e2
      have hne : bs ≠ [] := by intro z; subst z; simp at hne
      obtain ⟨a, vs, G', rfl, ha, ra⟩ := seqR_lst r1
      refine ⟨a, bs, rfl, by rw [← intsOf_rp ra e1]; exact SqL.of ha, List.length_pos_iff.mpr hne, fun m hm hle => ?_⟩
      obtain ⟨h1, h2⟩ := minI_spec hne
      have : m = minI bs := Int.le_antisymm (hle _ h1) (h2 m hm)
      exact q _ _ _ (h.drop.push (by rw [this]; exact .int _))
  · cases e
end
end Fw

/- part Fw7 -/
namespace Fw
open PySem PySem.Spec PyProof.Rows L2
section
variable {X : Cx} {B : Bs} {T ts : Tm} {ρ : En} {σ : L2.St} {H : Hp} {F : List Addr} {ps : List Opd} {ds : List D} {vs : List V} {Q : VK} {d d1 d2 d3 : D} {e tg : Expr} {f : En → Out D} {pos p : Pos}
/-! ### what is walked -/
/-- what stands on the pile at place n -/
theorem R.nth {fr T2 : Tm} {d : D} {v : V} {n : Nat} (h : R B (T ++ fr ++ T2) ρ σ H F) (e : fr[n]? = some (d, v)) : ∃ G, RpB B H F d v G := by
  obtain ⟨fp, q⟩ := h.pt
  have hn : n < fr.length := (List.getElem?_eq_some_iff.mp e).1
  have := q.tm (T.length + n) d v (by
    rw [List.append_assoc, List.getElem?_append_right (Nat.le_add_right _ _), Nat.add_sub_cancel_left, List.getElem?_append_left hn]; exact e)
  exact ⟨_, this, q.sub _⟩
/-- a list, a tuple that stands on the pile -/
theorem itok_list {K : PySem.W.Frag} {a : Addr} {xs : List D} (hd : seqOf d = some (true, xs)) (hz : xs.length ≤ sizeLine) : ItOk B (Itl K a) xs [(d, .ref a)] := by
  refine ⟨hz, fun T T2 ρ σ H F r i => ?_⟩
  obtain ⟨G, rb⟩ := r.nth (n := 0) rfl
  obtain ⟨a', vs, e, ha, rl⟩ := seqOf_lst rb hd
  cases e
  refine ⟨fun hi => ⟨vs, SqL.of ha, by rw [← rl.length]; exact hi⟩, fun d ed => ?_⟩
  obtain ⟨v, hv, rv⟩ := rl.get0 ed
  refine ⟨⟨vs, v, SqL.of ha, hv⟩, fun x H' ⟨eH, hx⟩ => ?_⟩
  subst eH
  have ex := hx vs (SqL.of ha)
  rw [hv] at ex; cases ex
  exact ⟨F, r.push rv⟩
theorem itok_tup {K : PySem.W.Frag} {a : Addr} {xs : List D} (hd : seqOf d = some (false, xs)) (hz : xs.length ≤ sizeLine) : ItOk B (Itt K a) xs [(d, .ref a)] := by
  refine ⟨hz, fun T T2 ρ σ H F r i => ?_⟩
  obtain ⟨G, rb⟩ := r.nth (n := 0) rfl
  obtain ⟨a', vs, e, ha, rl⟩ := seqOf_tp rb hd
  cases e
  refine ⟨fun hi => ⟨vs, SqT.of ha, by rw [← rl.length]; exact hi⟩, fun d ed => ?_⟩
  obtain ⟨v, hv, rv⟩ := rl.get0 ed
  refine ⟨⟨vs, v, SqT.of ha, hv⟩, fun x H' ⟨eH, hx⟩ => ?_⟩
  subst eH
  have ex := hx vs (SqT.of ha)
  rw [hv] at ex; cases ex
  exact ⟨F, r.push rv⟩
theorem itok_range {lo : Int} {n : Nat} (hz : n ≤ sizeLine) : ItOk B (Itr lo n) ((List.range n).map fun i => .int (lo + (i : Nat))) [] := by
  refine ⟨by simpa using hz, fun T T2 ρ σ H F r i => ⟨fun hi => (show n ≤ i by simpa using hi), fun d ed => ?_⟩⟩
  rw [List.getElem?_map] at ed
  by_cases hi : i < n
  · rw [List.getElem?_range hi] at ed
    cases ed
    refine ⟨hi, fun x H' ⟨eH, ex⟩ => ?_⟩
    subst eH; subst ex
    exact ⟨F, r.push (.int _)⟩
  · rw [List.getElem?_eq_none (by simpa using hi)] at ed; cases ed
/-- an iterable of either kind, by its reading -/
def iSeq (K : PySem.W.Frag) (tl : TE) : TI := fun σ H R => tl σ H fun x H1 => ∃ a, x = .ref a ∧ (((∃ xs, SqL K H1 a xs) ∧ R (Itl K a) H1) ∨ ((∃ xs, SqT K H1 a xs) ∧ R (Itt K a) H1))
theorem pi_seq {l : Expr} {tl : TE} (hl : PE X l tl) : PI X tg l (iSeq X.K tl) := ⟨fun pins s σ H Rr I h => thn (hl.run pins s σ H _ I h) fun v s1 z => by
  obtain ⟨x, H1, I1, r1, a, rfl, q⟩ := z
  cases r1
  have out : ∀ (fp : Addr), fp = s1.heap.objs.size → FpOk X pins H1 fp := by
    rintro _ rfl; exact I1.fpOk (Nat.le_refl _) (I1.hok.fresh (Nat.le_refl _))
  have mem1 : ∀ b, b ∈ [s1.heap.objs.size] → FpOk X pins H1 b := fun b hb => out b (List.mem_singleton.mp hb)
  rcases q with ⟨⟨xs, hx⟩, q⟩ | ⟨⟨xs, hx⟩, q⟩
  · obtain ⟨its, _, pl, _⟩ := I1.list hx
    exact wpAny_pyIter_list pl.isList ⟨_, _, _, _, H1, rfl, I1.kept (t' := s1.toks) (fun _ _ z => Heap.get?_push_of_some _ z), turn_list a _, ⟨_, Heap.get?_push_size _ rfl, rfl, rfl⟩, mem1, q⟩
  · obtain ⟨its, _, pl, _⟩ := I1.tuple hx
    exact wpAny_pyIter_tuple (items := its.toArray) pl ⟨_, _, _, _, H1, rfl, I1.kept (t' := s1.toks) (fun _ _ z => Heap.get?_push_of_some _ z), turn_tuple a _, ⟨_, Heap.get?_push_size _ rfl, rfl, rfl⟩, mem1, q⟩⟩
def itSeq (f : En → Out D) : En → Out (List D) := fun ρ => (f ρ).bind fun d ρ' => match seqOf d with
  | some p => .ok p.2 ρ'
  | none => .no
theorem top_rp {v : V} (r : R B (T ++ [(d, v)]) ρ σ H F) : ∃ G, RpB B H F d v G := by
  obtain ⟨fp, q⟩ := r.pt
  exact ⟨_, q.tm T.length d v (by simp), q.sub _⟩
theorem ei_seq (h : PE X e (cE B f)) : PI X tg e (cI B (itSeq f)) := (pi_seq h).imp fun σ H Rr ⟨T, ρ, F, r, q⟩ => by
  refine ⟨T, ρ, F, r, Out.wp_mono (Out.wp_bind q) (fun d ρ' q v H' F' r' => ?_) fun _ _ z => z⟩
  split at q
  · rename_i pr e1
    obtain ⟨b, xs⟩ := pr
    obtain ⟨G, rb⟩ := top_rp r'
    cases b with
    | true =>
      obtain ⟨a, vs, rfl, ha, rl⟩ := seqOf_lst rb e1
      exact ⟨a, rfl, .inl ⟨⟨vs, SqL.of ha⟩, q _ H' F' [(d, .ref a)] r' (itok_list e1 (by rw [rl.length]; exact r'.hl _ _ (.inl ha)))⟩⟩
    | false =>
      obtain ⟨a, vs, rfl, ha, rl⟩ := seqOf_tp rb e1
      exact ⟨a, rfl, .inr ⟨⟨vs, SqT.of ha⟩, q _ H' F' [(d, .ref a)] r' (itok_tup e1 (by rw [rl.length]; exact r'.hl _ _ (.inr ha)))⟩⟩
  · exact q.elim
/-! ### ranges -/
def rgD (lo hi : Int) : List D := (List.range (hi - lo).toNat).map fun i => .int (lo + (i : Nat))
def rgOk (lo hi : Int) : Bool := decide (-(2 ^ 62) ≤ lo) && decide (lo < 2 ^ 62) && decide (-(2 ^ 62) ≤ hi) && decide (hi < 2 ^ 62) && decide ((hi - lo).toNat ≤ sizeLine)
def itRg (ps : List Opd) : En → Out (List D) := fun ρ => (evOps ps ρ).bind fun ds ρ' => match ds with
  | [.int j] => if rgOk 0 j = true then .ok (rgD 0 j) ρ' else .no
  | [.int i, .int j] => if rgOk i j = true then .ok (rgD i j) ρ' else .no
  | _ => .no
theorem rgOk_iff {lo hi : Int} (h : rgOk lo hi = true) : -(2 ^ 62) ≤ lo ∧ lo < 2 ^ 62 ∧ -(2 ^ 62) ≤ hi ∧ hi < 2 ^ 62 ∧ (hi - lo).toNat ≤ sizeLine := by
  unfold rgOk at h
  simp only [Bool.and_eq_true, decide_eq_true_eq] at h
  exact ⟨h.1.1.1.1, h.1.1.1.2, h.1.1.2, h.1.2, h.2⟩
variable {a b : Expr} {pa pb : Opd}
theorem ei_range1 (hg : Gl X "range") (hm : X.mg "range" = none) (ha : PE X a (tOpd B pa)) (h1 : starEach [a] X.env = [(false, eval a X.env)] := by rfl) : PI X tg (.Call (.Name "range" p) [a] [] pos) (cI B (itRg [pa])) :=
  (pi_range1 hg hm (pa_cons ha pa_nil h1) h1).imp fun σ H Rr ⟨T, ρ, F, r, q⟩ => by
    refine ops_run (ps := [pa]) r (Out.wp_mono (Out.wp_bind q) (fun ds ρ' q vs H' F' ts r' o => ?_) fun _ _ z => z)
    split at q
    · split at q
      · rename_i hk
        obtain ⟨v1, G1, rfl, r1⟩ := o.one r'
        obtain ⟨k1, k2, k3, k4, k5⟩ := rgOk_iff hk
        have e0 : ∀ j : Int, (j - 0).toNat = j.toNat := fun j => by rw [Int.sub_zero]
        refine ⟨_, by rw [r1.int], k3, k4, q _ H' F' [] (by rw [List.append_nil]; exact r'.drop) ?_⟩
        unfold rgD
        rw [e0] at k5 ⊢
        exact itok_range k5
      · exact q.elim
    · have := ops_len o; simp at this
    · exact q.elim
theorem ei_range2 (hg : Gl X "range") (hm : X.mg "range" = none) (ha : PE X a (tOpd B pa)) (hb : PE X b (tOpd B pb)) (h1 : starEach [a, b] X.env = [(false, eval a X.env), (false, eval b X.env)] := by rfl) (h2 : starEach [b] X.env = [(false, eval b X.env)] := by rfl) :
    PI X tg (.Call (.Name "range" p) [a, b] [] pos) (cI B (itRg [pa, pb])) :=
  (pi_range2 hg hm (pa_cons ha (pa_cons hb pa_nil h2) (by rw [h1, h2])) h1 h2).imp fun σ H Rr ⟨T, ρ, F, r, q⟩ => by
    refine ops_run (ps := [pa, pb]) r (Out.wp_mono (Out.wp_bind q) (fun ds ρ' q vs H' F' ts r' o => ?_) fun _ _ z => z)
    split at q
    · have := ops_len o; simp at this
    · split at q
      · rename_i hk
        obtain ⟨v1, v2, G1, G2, rfl, r1, r2⟩ := o.two r'
        obtain ⟨k1, k2, k3, k4, k5⟩ := rgOk_iff hk
        exact ⟨_, _, by rw [r1.int, r2.int], ⟨k1, k2, k3, k4⟩, q _ H' F' [] (by rw [List.append_nil]; exact r'.drop) (itok_range k5)⟩
      · exact q.elim
    · exact q.elim
/-- list(range(..)), tuple(range(..)) -/
theorem rgD_rp {S : Gs} {Hs : Hp} (lo hi : Int) : RpL S H Hs (rgD lo hi) (rgV lo hi) [] := by
  unfold rgD rgV
  generalize List.range (hi - lo).toNat = l
  induction l with
  | nil => exact .nil
  | cons x l ih => exact .cons0 (.int _) ih
def opRgL1 : List D → Option D
  | [.int j] => if rgOk 0 j = true then some (.lst true (rgD 0 j)) else none
  | _ => none
def opRgL2 : List D → Option D
  | [.int i, .int j] => if rgOk i j = true then some (.lst true (rgD i j)) else none
  | _ => none
def opRgT1 : List D → Option D
  | [.int j] => if rgOk 0 j = true then some (.tup (rgD 0 j)) else none
  | _ => none
def opRgT2 : List D → Option D
  | [.int i, .int j] => if rgOk i j = true then some (.tup (rgD i j)) else none
  | _ => none
theorem rgOk_rg {lo hi : Int} (h : rgOk lo hi = true) : RgOk lo hi := by
  obtain ⟨k1, k2, k3, k4, k5⟩ := rgOk_iff h
  exact ⟨k1, k2, k3, k4, k5⟩
theorem rgV_le {lo hi : Int} (h : rgOk lo hi = true) : (rgV lo hi).length ≤ sizeLine := by
  rw [rgV_length]; exact (rgOk_iff h).2.2.2.2
variable {p2 pos2 : Pos}
theorem opRgL1_S : OpS B (rr1 fun x H Q => ∃ n, x = .int n ∧ RgOk 0 n ∧ ∀ q, H q = none → Q (.ref q) (upd H q (.lst (rgV 0 n)))) opRgL1 := by
  intro T ts ρ σ H F ps ds vs Q d h o e q
  unfold opRgL1 at e
  split at e
  · split at e
    · rename_i hk
      cases e
      obtain ⟨v1, G1, rfl, r1⟩ := o.one h
      exact ⟨_, r1.int, rgOk_rg hk, fun p hp => q _ _ _ (h.drop.newL (rgD_rp _ _) hp (rgV_le hk))⟩
    · cases e
  · cases e
theorem opRgT1_S : OpS B (rr1 fun x H Q => ∃ n, x = .int n ∧ RgOk 0 n ∧ ∀ q, H q = none → Q (.ref q) (upd H q (.tup (rgV 0 n)))) opRgT1 := by
  intro T ts ρ σ H F ps ds vs Q d h o e q
  unfold opRgT1 at e
  split at e
  · split at e
    · rename_i hk
      cases e
      obtain ⟨v1, G1, rfl, r1⟩ := o.one h
      exact ⟨_, r1.int, rgOk_rg hk, fun p hp => q _ _ _ (h.drop.newT (rgD_rp _ _) hp (rgV_le hk))⟩
    · cases e
  · cases e
theorem opRgL2_S : OpS B (rr2 fun x y H Q => ∃ i j, x = .int i ∧ y = .int j ∧ RgOk i j ∧ ∀ q, H q = none → Q (.ref q) (upd H q (.lst (rgV i j)))) opRgL2 := by
  intro T ts ρ σ H F ps ds vs Q d h o e q
  unfold opRgL2 at e
  split at e
  · split at e
    · rename_i hk
      cases e
      obtain ⟨v1, v2, G1, G2, rfl, r1, r2⟩ := o.two h
      exact ⟨_, _, r1.int, r2.int, rgOk_rg hk, fun p hp => q _ _ _ (h.drop.newL (rgD_rp _ _) hp (rgV_le hk))⟩
    · cases e
  · cases e
theorem opRgT2_S : OpS B (rr2 fun x y H Q => ∃ i j, x = .int i ∧ y = .int j ∧ RgOk i j ∧ ∀ q, H q = none → Q (.ref q) (upd H q (.tup (rgV i j)))) opRgT2 := by
  intro T ts ρ σ H F ps ds vs Q d h o e q
  unfold opRgT2 at e
  split at e
  · split at e
    · rename_i hk
      cases e
      obtain ⟨v1, v2, G1, G2, rfl, r1, r2⟩ := o.two h
      exact ⟨_, _, r1.int, r2.int, rgOk_rg hk, fun p hp => q _ _ _ (h.drop.newT (rgD_rp _ _) hp (rgV_le hk))⟩
    · cases e
  · cases e
theorem ev_listRg1 (hc : X.calm = true) (hg : Gl X "list") (hm : X.mg "list" = none) (hg2 : Gl X "range") (hm2 : X.mg "range" = none) (ha : PE X a (tOpd B pa)) (na : starEach [a] X.env = (false, eval a X.env) :: starEach [] X.env := by rfl)
    (nb : starEach [.Call (.Name "range" p2) [a] [] pos2] X.env = (false, eval (.Call (.Name "range" p2) [a] [] pos2) X.env) :: starEach [] X.env := by rfl) : PE X (.Call (.Name "list" p) [.Call (.Name "range" p2) [a] [] pos2] [] pos) (cE B (evOp [pa] opRgL1)) :=
  (pe_listRg hc hg hm (prg_1 hg2 hm2 ha na) nb).imp fun σ H Q h => op_run (ps := [pa]) opRgL1_S h
theorem ev_listRg2 (hc : X.calm = true) (hg : Gl X "list") (hm : X.mg "list" = none) (hg2 : Gl X "range") (hm2 : X.mg "range" = none) (ha : PE X a (tOpd B pa)) (hb : PE X b (tOpd B pb)) (na : starEach [a, b] X.env = (false, eval a X.env) :: starEach [b] X.env := by rfl) (nc : starEach [b] X.env = (false, eval b X.env) :: starEach [] X.env := by rfl) (hp : (backTo pos2 (starEach [b] X.env)).any (·.1) = false := by rfl)
    (nb : starEach [.Call (.Name "range" p2) [a, b] [] pos2] X.env = (false, eval (.Call (.Name "range" p2) [a, b] [] pos2) X.env) :: starEach [] X.env := by rfl) : PE X (.Call (.Name "list" p) [.Call (.Name "range" p2) [a, b] [] pos2] [] pos) (cE B (evOp [pa, pb] opRgL2)) :=
  (pe_listRg hc hg hm (prg_2 hg2 hm2 ha hb na nc hp) nb).imp fun σ H Q h => op_run (ps := [pa, pb]) opRgL2_S h
theorem ev_tupRg1 (hc : X.calm = true) (hg : Gl X "tuple") (hm : X.mg "tuple" = none) (hg2 : Gl X "range") (hm2 : X.mg "range" = none) (ha : PE X a (tOpd B pa)) (na : starEach [a] X.env = (false, eval a X.env) :: starEach [] X.env := by rfl)
    (nb : starEach [.Call (.Name "range" p2) [a] [] pos2] X.env = (false, eval (.Call (.Name "range" p2) [a] [] pos2) X.env) :: starEach [] X.env := by rfl) : PE X (.Call (.Name "tuple" p) [.Call (.Name "range" p2) [a] [] pos2] [] pos) (cE B (evOp [pa] opRgT1)) :=
  (pe_tupRg hc hg hm (prg_1 hg2 hm2 ha na) nb).imp fun σ H Q h => op_run (ps := [pa]) opRgT1_S h
theorem ev_tupRg2 (hc : X.calm = true) (hg : Gl X "tuple") (hm : X.mg "tuple" = none) (hg2 : Gl X "range") (hm2 : X.mg "range" = none) (ha : PE X a (tOpd B pa)) (hb : PE X b (tOpd B pb)) (na : starEach [a, b] X.env = (false, eval a X.env) :: starEach [b] X.env := by rfl) (nc : starEach [b] X.env = (false, eval b X.env) :: starEach [] X.env := by rfl) (hp : (backTo pos2 (starEach [b] X.env)).any (·.1) = false := by rfl)
    (nb : starEach [.Call (.Name "range" p2) [a, b] [] pos2] X.env = (false, eval (.Call (.Name "range" p2) [a, b] [] pos2) X.env) :: starEach [] X.env := by rfl) : PE X (.Call (.Name "tuple" p) [.Call (.Name "range" p2) [a, b] [] pos2] [] pos) (cE B (evOp [pa, pb] opRgT2)) :=
  (pe_tupRg hc hg hm (prg_2 hg2 hm2 ha hb na nc hp) nb).imp fun σ H Q h => op_run (ps := [pa, pb]) opRgT2_S h

/-! ### enumerate, zip -/
def enD : Nat → List D → List D
  | _, [] => []
  | n, x :: xs => .tup [.int (n : Nat), x] :: enD (n + 1) xs
theorem enD_get : ∀ (xs : List D) (n i : Nat) (d : D), (enD n xs)[i]? = some d → ∃ x, xs[i]? = some x ∧ d = .tup [.int ((n + i : Nat) : Int), x]
  | [], n, i, d, e => by simp [enD] at e
  | x :: xs, n, 0, d, e => by simp [enD] at e; exact ⟨x, rfl, by rw [← e]; rfl⟩
  | x :: xs, n, i + 1, d, e => by
    rw [enD, List.getElem?_cons_succ] at e
    obtain ⟨y, h1, h2⟩ := enD_get xs (n + 1) i d e
    exact ⟨y, by simpa using h1, by rw [h2, show n + 1 + i = n + (i + 1) by omega]⟩
theorem enD_len : ∀ (xs : List D) (n : Nat), (enD n xs).length = xs.length
  | [], _ => rfl
  | x :: xs, n => by rw [enD, List.length_cons, enD_len xs, List.length_cons]
theorem pair_push {x y : V} {dx dy : D} {p : Addr} (r : R B T ρ σ H F) (hp : H p = none) (r1 : Rp B.S H (hid (B.M ++ F) H) dx x []) (r2 : Rp B.S H (hid (B.M ++ F) H) dy y []) : R B (T ++ [(.tup [dx, dy], .ref p)]) ρ σ (upd H p (.tup [x, y])) F :=
  r.newT (.cons0 r1 (.cons0 r2 .nil)) hp (by show 2 ≤ sizeLine; decide)
theorem itok_enum {K : PySem.W.Frag} {a : Addr} {xs : List D} (hd : seqOf d = some (true, xs)) (hz : xs.length ≤ sizeLine) : ItOk B (Ite K a) (enD 0 xs) [(d, .ref a)] := by
  refine ⟨by rw [enD_len]; exact hz, fun T T2 ρ σ H F r i => ?_⟩
  obtain ⟨G, rb⟩ := r.nth (n := 0) rfl
  obtain ⟨a', vs, e, ha, rl⟩ := seqOf_lst rb hd
  cases e
  refine ⟨fun hi => ⟨vs, SqL.of ha, by rw [← rl.length]; rw [enD_len] at hi; exact hi⟩, fun d ed => ?_⟩
  obtain ⟨x, hx, rfl⟩ := enD_get _ _ _ _ ed
  obtain ⟨v, hv, rv⟩ := rl.get0 hx
  refine ⟨⟨vs, v, SqL.of ha, hv⟩, fun y H' ⟨t, z, ey, ht, eH, hz⟩ => ?_⟩
  subst ey; subst eH
  have ez := hz vs (SqL.of ha)
  rw [hv] at ez; cases ez
  rw [Nat.zero_add]
  exact ⟨F, pair_push r ht (.int _) rv⟩
def itEn (ps : List Opd) : En → Out (List D) := fun ρ => (evOps ps ρ).bind fun ds ρ' => match ds with
  | [d] => match seqOf d with
    | some p => if shr d = true then .ok (enD 0 p.2) ρ' else .no
    | none => .no
  | _ => .no
theorem zip2D_get : ∀ (xs ys : List D) (i : Nat) (d : D), ((xs.zip ys).map fun p => D.tup [p.1, p.2])[i]? = some d → ∃ x y, xs[i]? = some x ∧ ys[i]? = some y ∧ d = .tup [x, y]
  | [], ys, i, d, e => by simp at e
  | x :: xs, [], i, d, e => by simp at e
  | x :: xs, y :: ys, 0, d, e => by simp at e; exact ⟨x, y, rfl, rfl, e.symm⟩
  | x :: xs, y :: ys, i + 1, d, e => by
    rw [List.zip_cons_cons, List.map_cons, List.getElem?_cons_succ] at e
    obtain ⟨x', y', h1, h2, h3⟩ := zip2D_get xs ys i d e
    exact ⟨x', y', by simpa using h1, by simpa using h2, h3⟩
def zipD (xs ys : List D) : List D := (xs.zip ys).map fun p => D.tup [p.1, p.2]
theorem zipD_len (xs ys : List D) : (zipD xs ys).length = min xs.length ys.length := by simp [zipD]
theorem itok_zip {K : PySem.W.Frag} {a b : Addr} {xs ys : List D} (hd : seqOf d1 = some (true, xs)) (hd2 : seqOf d2 = some (true, ys)) (hz : xs.length ≤ sizeLine) : ItOk B (Itz K a b) (zipD xs ys) [(d1, .ref a), (d2, .ref b)] := by
  refine ⟨by rw [zipD_len]; omega, fun T T2 ρ σ H F r i => ?_⟩
  obtain ⟨G, rb⟩ := r.nth (n := 0) rfl
  obtain ⟨G2, rb2⟩ := r.nth (n := 1) rfl
  obtain ⟨a', vs, e, ha, rl⟩ := seqOf_lst rb hd
  cases e
  obtain ⟨a', ws, e, hb, rl2⟩ := seqOf_lst rb2 hd2
  cases e
  refine ⟨fun hi => ⟨vs, ws, SqL.of ha, SqL.of hb, by rw [← rl.length, ← rl2.length]; rw [zipD_len] at hi; omega⟩, fun d ed => ?_⟩
  obtain ⟨x, y, hx, hy, rfl⟩ := zip2D_get _ _ _ _ ed
  obtain ⟨v, hv, rv⟩ := rl.get0 hx
  obtain ⟨w, hw, rw'⟩ := rl2.get0 hy
  refine ⟨⟨vs, ws, v, w, SqL.of ha, SqL.of hb, hv, hw⟩, fun z H' ⟨t, x', y', ez, ht, eH, hx', hy'⟩ => ?_⟩
  subst ez; subst eH
  have e1 := hx' vs (SqL.of ha)
  have e2 := hy' ws (SqL.of hb)
  rw [hv] at e1; cases e1
  rw [hw] at e2; cases e2
  exact ⟨F, pair_push r ht rv rw'⟩
theorem itok_zipT {K : PySem.W.Frag} {a b : Addr} {xs ys : List D} (hd : seqOf d1 = some (false, xs)) (hd2 : seqOf d2 = some (false, ys)) (hz : xs.length ≤ sizeLine) : ItOk B (RZ.ItzT K a b) (zipD xs ys) [(d1, .ref a), (d2, .ref b)] := by
  refine ⟨by rw [zipD_len]; omega, fun T T2 ρ σ H F r i => ?_⟩
  obtain ⟨G, rb⟩ := r.nth (n := 0) rfl
  obtain ⟨G2, rb2⟩ := r.nth (n := 1) rfl
  obtain ⟨a', vs, e, ha, rl⟩ := seqOf_tp rb hd
  cases e
  obtain ⟨a', ws, e, hb, rl2⟩ := seqOf_tp rb2 hd2
  cases e
  refine ⟨fun hi => ⟨vs, ws, SqT.of ha, SqT.of hb, by rw [← rl.length, ← rl2.length]; rw [zipD_len] at hi; omega⟩, fun d ed => ?_⟩
  obtain ⟨x, y, hx, hy, rfl⟩ := zip2D_get _ _ _ _ ed
  obtain ⟨v, hv, rv⟩ := rl.get0 hx
  obtain ⟨w, hw, rw'⟩ := rl2.get0 hy
  refine ⟨⟨vs, ws, v, w, SqT.of ha, SqT.of hb, hv, hw⟩, fun z H' ⟨t, x', y', ez, ht, eH, hx', hy'⟩ => ?_⟩
  subst ez; subst eH
  have e1 := hx' vs (SqT.of ha)
  have e2 := hy' ws (SqT.of hb)
  rw [hv] at e1; cases e1
  rw [hw] at e2; cases e2
  exact ⟨F, pair_push r ht rv rw'⟩
/-- operands all on the pile -/
def itEnV (f : En → Out D) : En → Out (List D) := fun ρ => (f ρ).bind fun d ρ' => match seqOf d with
  | some (true, xs) => .ok (enD 0 xs) ρ'
  | _ => .no
def itZip (f g : En → Out D) : En → Out (List D) := fun ρ => (f ρ).bind fun d ρ1 => (g ρ1).bind fun e ρ2 => match seqOf d, seqOf e with
  | some (true, xs), some (true, ys) => .ok (zipD xs ys) ρ2
  | some (false, xs), some (false, ys) => .ok (zipD xs ys) ρ2
  | _, _ => .no
variable {elts : List Expr} {kk : Nat} {tpos : Pos} {g : En → Out D}
theorem ei_enumL (hg : Gl X "enumerate") (hm : X.mg "enumerate" = none) (ha : PE X a (cE B f)) (hs : starEach [a] X.env = [(false, eval a X.env)] := by rfl) : PI X (.Tuple elts kk tpos) (.Call (.Name "enumerate" p) [a] [] pos) (cI B (itEnV f)) :=
  (pi_enum hg hm (pa_cons ha pa_nil hs) hs).imp fun σ H Rr ⟨T, ρ, F, r, q⟩ => by
    refine ⟨T, ρ, F, r, Out.wp_mono (Out.wp_bind q) (fun d ρ' q v H' F' r' => ?_) fun _ _ z => z⟩
    split at q
    · rename_i xs e1
      obtain ⟨G, rb⟩ := top_rp r'
      obtain ⟨a, vs, rfl, ha, rl⟩ := seqOf_lst rb e1
      exact ⟨a, vs, rfl, SqL.of ha, q _ H' F' [(d, .ref a)] r' (itok_enum e1 (by rw [rl.length]; exact r'.hl _ _ (.inl ha)))⟩
    · exact q.elim
theorem ei_zip (hg : Gl X "zip") (hm : X.mg "zip" = none) (ha : PE X a (cE B f)) (hb : PE X b (cE B g)) (h1 : starEach [a, b] X.env = (false, eval a X.env) :: starEach [b] X.env := by rfl) (h2 : starEach [b] X.env = (false, eval b X.env) :: starEach [] X.env := by rfl) (hp : (backTo pos (starEach [b] X.env)).any (·.1) = false := by rfl) :
    PI X (.Tuple elts kk tpos) (.Call (.Name "zip" p) [a, b] [] pos) (cI B (itZip f g)) :=
  (RZ.pi_zipA hg hm (pa_cons ha (pa_cons hb pa_nil h2) h1) h1 hp).imp fun σ H Rr ⟨T, ρ, F, r, q⟩ => by
    refine ⟨T, ρ, F, r, Out.wp_mono (Out.wp_bind q) (fun d ρ' q v H' F' r' => ?_) fun _ _ z => z⟩
    refine ⟨_, ρ', F', r', Out.wp_mono (Out.wp_bind q) (fun d2 ρ2 q v2 H2 F2 r2 => ?_) fun x ρ2 z cls dd H F xr r => z cls dd H F xr r.drop⟩
    have rr : R B (T ++ [(d, v), (d2, v2)] ++ []) ρ2 σ H2 F2 := by simpa using r2
    obtain ⟨G, rb⟩ := rr.nth (n := 0) rfl
    obtain ⟨G2, rb2⟩ := rr.nth (n := 1) rfl
    rw [List.append_nil] at rr
    split at q
    · rename_i xs ys e1 e2
      obtain ⟨a, vs, rfl, ha, rl⟩ := seqOf_lst rb e1
      obtain ⟨b, ws, rfl, hb, rl2⟩ := seqOf_lst rb2 e2
      exact ⟨a, b, vs, ws, rfl, .inl ⟨SqL.of ha, SqL.of hb, q _ H2 F2 [(d, .ref a), (d2, .ref b)] rr (itok_zip e1 e2 (by rw [rl.length]; exact r2.hl _ _ (.inl ha)))⟩⟩
    · rename_i xs ys e1 e2
      obtain ⟨a, vs, rfl, ha, rl⟩ := seqOf_tp rb e1
      obtain ⟨b, ws, rfl, hb, rl2⟩ := seqOf_tp rb2 e2
      exact ⟨a, b, vs, ws, rfl, .inr ⟨SqT.of ha, SqT.of hb, q _ H2 F2 [(d, .ref a), (d2, .ref b)] rr (itok_zipT e1 e2 (by rw [rl.length]; exact r2.hl _ _ (.inr ha)))⟩⟩
    · exact q.elim

/-! ### slices -/
def cutD (xs : List D) (lo hi : Option Int) : List D := (xs.drop (HT.sIx xs.length 0 lo)).take (HT.sIx xs.length xs.length hi - HT.sIx xs.length 0 lo)
theorem cut_rp {S : Gs} {Hs : Hp} {xs : List D} {vs : List V} (h : RpL S H Hs xs vs []) (lo hi : Option Int) : RpL S H Hs (cutD xs lo hi) (cutV vs lo hi) [] := by
  have hl := h.length
  refine RpL.of ?_ fun i d v e1 e2 => ?_
  · unfold cutD cutV
    simp [hl]
  · unfold cutD at e1
    unfold cutV at e2
    rw [← hl] at e2
    rw [List.getElem?_take] at e1 e2
    split at e1
    · rw [List.getElem?_drop] at e1 e2
      rename_i hi'
      rw [if_pos hi'] at e2
      obtain ⟨v', h1, h2⟩ := h.get0 e1
      rw [e2] at h1; cases h1; exact h2
    · cases e1
/-- a slice's parts: left out, or an expression -/
def prD : Option (En → Out D) → List Opd
  | none => []
  | some f => [.val f]
def evSl (pa : Opd) (lo hi : Option (En → Out D)) : En → Out D := fun ρ => (evOps (pa :: (prD lo ++ prD hi)) ρ).bind fun ds ρ' => match ds with
  | d :: is => match seqOf d, intsOf is with
    | some (b, xs), some js => match lo, hi, js with
      | none, none, [] => .ok (if b = true then .lst true (cutD xs none none) else .tup (cutD xs none none)) ρ'
      | some _, none, [i] => .ok (if b = true then .lst true (cutD xs (some i) none) else .tup (cutD xs (some i) none)) ρ'
      | none, some _, [j] => .ok (if b = true then .lst true (cutD xs none (some j)) else .tup (cutD xs none (some j))) ρ'
      | some _, some _, [i, j] => .ok (if b = true then .lst true (cutD xs (some i) (some j)) else .tup (cutD xs (some i) (some j))) ρ'
      | _, _, _ => .no
    | _, _ => .no
  | [] => .no
theorem SlR.any : SlR X (fun x lo hi H Q => rSlL X.K x lo hi H Q ∨ rSlA X.K x lo hi H Q) := sl_list.or sl_tupA
theorem sl_fin {v : V} {G : List Addr} {b : Bool} {xs : List D} {lo hi : Option Int} {K : PySem.W.Frag} (r : R B (T ++ ts) ρ σ H F) (rb : RpB B H F d v G) (e : seqOf d = some (b, xs))
    (q : ∀ v H' F', R B (T ++ [(if b = true then .lst true (cutD xs lo hi) else .tup (cutD xs lo hi), v)]) ρ σ H' F' → Q v H') : rSlL K v lo hi H Q ∨ rSlA K v lo hi H Q := by
  cases b with
  | true =>
    obtain ⟨a, vs, rfl, ha, rl⟩ := seqOf_lst rb e
    exact .inl ⟨a, vs, rfl, SqL.of ha, fun p hp => q _ _ _ (r.drop.newL (cut_rp rl lo hi) hp (Nat.le_trans (cutV_length _ _ _) (r.hl _ _ (.inl ha))))⟩
  | false =>
    obtain ⟨a, vs, rfl, ha, rl⟩ := seqOf_tp rb e
    refine .inr ⟨a, vs, rfl, SqT.of ha, fun hw => ?_, fun _ p hp => q _ _ _ (r.drop.newT (cut_rp rl lo hi) hp (Nat.le_trans (cutV_length _ _ _) (r.hl _ _ (.inr ha))))⟩
    have : cutD xs lo hi = xs := by
      unfold cutD
      rw [rl.length, hw.1, hw.2, List.drop_zero, Nat.sub_zero, ← rl.length, List.take_length]
    rw [this] at q
    exact q _ _ _ (r.drop.push (seqOf_tup rb e))
variable {lo hi : Expr} {fl fh : En → Out D}
theorem ev_sl0 (ha : PE X a (tOpd B pa)) : PE X (.Subscript a (.Slice none none none p2) pos) (cE B (evSl pa none none)) := (pe_slice SlR.any ha po_none po_none).imp fun σ H Q ⟨T, ρ, F, r, q⟩ => by
  refine ops_run (ps := [pa]) (K := fun vs H => match vs with | [x] => (rSlL X.K x none none H Q ∨ rSlA X.K x none none H Q) | _ => False) r (Out.wp_mono (Out.wp_bind q) (fun ds ρ' q vs H' F' ts r' o => ?_) fun _ _ z => z)
  have hl := ops_len o
  match ds, hl with
  | [d], _ =>
    obtain ⟨v1, G1, rfl, r1⟩ := o.one r'
    dsimp only at q
    split at q
    · rename_i b xs js e1 e2
      cases e2
      exact sl_fin r' r1 e1 q
    · exact q.elim
theorem ev_sl1 (ha : PE X a (tOpd B pa)) (hl : PE X lo (cE B fl)) : PE X (.Subscript a (.Slice (some lo) none none p2) pos) (cE B (evSl pa (some fl) none)) := (pe_slice SlR.any ha (po_some hl) po_none).imp fun σ H Q ⟨T, ρ, F, r, q⟩ => by
  refine ops_run (ps := [pa, .val fl]) (K := fun vs H => match vs with | [x, y] => ∃ i, y = .int i ∧ (rSlL X.K x (some i) none H Q ∨ rSlA X.K x (some i) none H Q) | _ => False) r (Out.wp_mono (Out.wp_bind q) (fun ds ρ' q vs H' F' ts r' o => ?_) fun _ _ z => z)
  have hl := ops_len o
  match ds, hl with
  | [d, d2], _ =>
    obtain ⟨v1, v2, G1, G2, rfl, r1, r2⟩ := o.two r'
    dsimp only at q ⊢
    split at q
    · rename_i b xs js e1 e2
      cases d2 with
      | int i => cases e2; exact ⟨i, r2.int, sl_fin r' r1 e1 q⟩
      | _ => cases e2
    · exact q.elim
theorem ev_sl2 (ha : PE X a (tOpd B pa)) (hh : PE X hi (cE B fh)) : PE X (.Subscript a (.Slice none (some hi) none p2) pos) (cE B (evSl pa none (some fh))) := (pe_slice SlR.any ha po_none (po_some hh)).imp fun σ H Q ⟨T, ρ, F, r, q⟩ => by
  refine ops_run (ps := [pa, .val fh]) (K := fun vs H => match vs with | [x, y] => ∃ i, y = .int i ∧ (rSlL X.K x none (some i) H Q ∨ rSlA X.K x none (some i) H Q) | _ => False) r (Out.wp_mono (Out.wp_bind q) (fun ds ρ' q vs H' F' ts r' o => ?_) fun _ _ z => z)
  have hl := ops_len o
  match ds, hl with
  | [d, d2], _ =>
    obtain ⟨v1, v2, G1, G2, rfl, r1, r2⟩ := o.two r'
    dsimp only at q ⊢
    split at q
    · rename_i b xs js e1 e2
      cases d2 with
      | int i => cases e2; exact ⟨i, r2.int, sl_fin r' r1 e1 q⟩
      | _ => cases e2
    · exact q.elim
theorem OpV.three (h : R B (T ++ ts) ρ σ H F) (o : OpV ρ σ ps ts [d1, d2, d3] vs) : ∃ v1 v2 v3 G1 G2 G3, vs = [v1, v2, v3] ∧ RpB B H F d1 v1 G1 ∧ RpB B H F d2 v2 G2 ∧ RpB B H F d3 v3 G3 := by
  obtain ⟨v1, G1, e1, r1⟩ := o.at h 0 d1 rfl
  obtain ⟨v2, G2, e2, r2⟩ := o.at h 1 d2 rfl
  obtain ⟨v3, G3, e3, r3⟩ := o.at h 2 d3 rfl
  have hl := o.len
  match vs, hl, e1, e2, e3 with
  | [x, y, z], _, e1, e2, e3 => cases e1; cases e2; cases e3; exact ⟨_, _, _, G1, G2, G3, rfl, r1, r2, r3⟩
def evSlV (f fl fh : En → Out D) : En → Out D := fun ρ => (f ρ).bind fun d ρ1 => (fl ρ1).bind fun i ρ2 => match i with
  | .int i => (fh ρ2).bind fun j ρ3 => match j with
    | .int j => match seqOf d with
      | some (b, xs) => .ok (if b = true then .lst true (cutD xs (some i) (some j)) else .tup (cutD xs (some i) (some j))) ρ3
      | none => .no
    | _ => .no
  | _ => .no
theorem ev_sl12 (ha : PE X a (cE B f)) (hl : PE X lo (cE B fl)) (hh : PE X hi (cE B fh)) : PE X (.Subscript a (.Slice (some lo) (some hi) none p2) pos) (cE B (evSlV f fl fh)) := (pe_slice SlR.any ha (po_some hl) (po_some hh)).imp fun σ H Q ⟨T, ρ, F, r, q⟩ => by
  refine ⟨T, ρ, F, r, Out.wp_mono (Out.wp_bind q) (fun d ρ1 q v H1 F1 r1 => ?_) fun _ _ z => z⟩
  refine ⟨_, ρ1, F1, r1, Out.wp_mono (Out.wp_bind q) (fun d2 ρ2 q v2 H2 F2 r2 => ?_) fun x ρ2 z cls dd H F xr r => z cls dd H F xr r.drop⟩
  split at q
  · rename_i i
    obtain ⟨G2, rb2⟩ := top_rp r2
    refine ⟨i, rb2.int, _, ρ2, F2, r2, Out.wp_mono (Out.wp_bind q) (fun d3 ρ3 q v3 H3 F3 r3 => ?_) fun x ρ2 z cls dd H F xr r => z cls dd H F xr r.drop.drop⟩
    split at q
    · rename_i j
      obtain ⟨G3, rb3⟩ := top_rp r3
      refine ⟨j, rb3.int, ?_⟩
      split at q
      · rename_i b xs e
        have rr : R B (T ++ [(d, v), (.int i, v2), (.int j, v3)] ++ []) ρ3 σ H3 F3 := by simpa using r3
        obtain ⟨G1, rb1⟩ := rr.nth (n := 0) rfl
        rw [List.append_nil] at rr
        exact sl_fin rr rb1 e q
      · exact q.elim
    · exact q.elim
  · exact q.elim
end
end Fw

/- part Fw8 -/
namespace Fw
open PySem PySem.Spec PyProof.Rows L2
section
variable {X : Cx} {B : Bs} {T ts : Tm} {ρ : En} {σ : L2.St} {H : Hp} {F : List Addr} {ps : List Opd} {ds : List D} {vs : List V} {Q : VK} {d d1 d2 d3 : D} {e a b tg : Expr} {f fe fk : En → Out D} {pos p pos' : Pos}
/-! ### an own list, an own dict in a slot is changed -/
theorem nd_mem {F G : List Addr} {x : Addr} (hd : ∀ x, x ∈ F → x ∉ G) (h : x ∈ F ++ G) : x ∈ F ∨ x ∈ G := List.mem_append.mp h
theorem R.mutL {i : Nat} {a : Addr} (h : R B (T ++ ts) ρ σ H F) (e : ρ.vs[i]? = some (.ow (.lst true ds))) (ev : σ[i]? = some (some (.ref a))) :
    ∃ vs, H a = some (.lst vs) ∧ vs.length = ds.length ∧ ∀ ds' vs', (∀ {Hs : Hp} {F G : List Addr}, (∀ b o, Hs b = some o → H b = some o) → RpL B.S H Hs ds vs F → RpL B.S H Hs (ts.map (·.1)) (ts.map (·.2)) G → F.Nodup → G.Nodup → (∀ x, x ∈ F → x ∉ G) → ∃ F', RpL B.S H Hs ds' vs' F' ∧ (∀ x ∈ F', x ∈ F ∨ x ∈ G) ∧ F'.Nodup) →
      vs'.length ≤ sizeLine → R B T { ρ with vs := ρ.vs.set i (.ow (.lst true ds')) } σ (upd H a (.lst vs')) F := by
  obtain ⟨fp, p⟩ := h.pt
  obtain ⟨v, ev', r⟩ := (show RpV _ _ _ (.ow (.lst true ds)) _ _ from p.sl i _ e)
  rw [ev] at ev'; cases ev'
  generalize hG : fp (.inr i) = G0 at r
  cases r with
  | @lstO _ vs _ F0 ha rl =>
    refine ⟨vs, ha, rl.length.symm, fun ds' vs' step hz => h.mut e ev (d' := .lst true ds') (o := .lst vs') (fun {Hs G Gt} hs r rt nd ndt cr => ?_) (by intro ws e; rcases e with e | e <;> cases e; exact hz)⟩
    cases r with
    | @lstO _ vs2 _ F1 ha2 rl2 =>
      rw [ha] at ha2; cases ha2
      obtain ⟨na, nd1⟩ := List.nodup_cons.mp nd
      obtain ⟨F', r', sub, nd'⟩ := step hs rl2 rt nd1 ndt (fun x hx => cr x (List.mem_cons_of_mem _ hx))
      have haG : a ∉ Gt := cr a List.mem_cons_self
      have naF : a ∉ F' := fun z => (sub a z).elim na haG
      refine ⟨a :: F', fun x hx => ?_, List.nodup_cons.mpr ⟨naF, nd'⟩, List.mem_cons_self, fun {H'} ha' k => .lstO ha' (r'.mono (fun x hx o q => k x o (by rintro rfl; exact naF hx) q) fun _ _ z => z)⟩
      rcases List.mem_cons.mp hx with rfl | hx
      · exact .inl List.mem_cons_self
      · exact (sub x hx).imp (fun z => List.mem_cons_of_mem _ z) id
theorem R.mutD {i : Nat} {a : Addr} {ks : List Key} (h : R B (T ++ ts) ρ σ H F) (e : ρ.vs[i]? = some (.ow (.dk true ks ds))) (ev : σ[i]? = some (some (.ref a))) :
    ∃ kvs, H a = some (.dK kvs) ∧ kvs.map (·.1) = ks ∧ ds.length = kvs.length ∧ ∀ ds' (kvs' : List (Key × V)), (∀ {Hs : Hp} {F G : List Addr}, (∀ b o, Hs b = some o → H b = some o) → RpL B.S H Hs ds (kvs.map (·.2)) F → RpL B.S H Hs (ts.map (·.1)) (ts.map (·.2)) G → F.Nodup → G.Nodup → (∀ x, x ∈ F → x ∉ G) → ∃ F', RpL B.S H Hs ds' (kvs'.map (·.2)) F' ∧ (∀ x ∈ F', x ∈ F ∨ x ∈ G) ∧ F'.Nodup) →
      R B T { ρ with vs := ρ.vs.set i (.ow (.dk true (kvs'.map (·.1)) ds')) } σ (upd H a (.dK kvs')) F := by
  obtain ⟨fp, p⟩ := h.pt
  obtain ⟨v, ev', r⟩ := (show RpV _ _ _ (.ow (.dk true ks ds)) _ _ from p.sl i _ e)
  rw [ev] at ev'; cases ev'
  generalize hG : fp (.inr i) = G0 at r
  cases r with
  | @dkO _ kvs _ F0 ha rl =>
    refine ⟨kvs, ha, rfl, by rw [rl.length, List.length_map], fun ds' kvs' step => h.mut e ev (d' := .dk true (kvs'.map (·.1)) ds') (o := .dK kvs') (fun {Hs G Gt} hs r rt nd ndt cr => ?_) (by intro ws e; rcases e with e | e <;> cases e)⟩
    generalize hk : kvs.map (·.1) = ks' at r
    cases r with
    | @dkO _ kvs2 _ F1 ha2 rl2 =>
      rw [ha] at ha2; cases ha2
      obtain ⟨na, nd1⟩ := List.nodup_cons.mp nd
      obtain ⟨F', r', sub, nd'⟩ := step hs rl2 rt nd1 ndt (fun x hx => cr x (List.mem_cons_of_mem _ hx))
      have haG : a ∉ Gt := cr a List.mem_cons_self
      have naF : a ∉ F' := fun z => (sub a z).elim na haG
      refine ⟨a :: F', fun x hx => ?_, List.nodup_cons.mpr ⟨naF, nd'⟩, List.mem_cons_self, fun {H'} ha' k => .dkO ha' (r'.mono (fun x hx o q => k x o (by rintro rfl; exact naF hx) q) fun _ _ z => z)⟩
      rcases List.mem_cons.mp hx with rfl | hx
      · exact .inl List.mem_cons_self
      · exact (sub x hx).imp (fun z => List.mem_cons_of_mem _ z) id
theorem one_rpl {S : Gs} {H Hs : Hp} {d : D} {v : V} {G : List Addr} (r : RpL S H Hs [d] [v] G) : Rp S H Hs d v G := by
  cases r with
  | cons h r => cases r; rw [List.append_nil]; exact h

theorem R.mutL' {i : Nat} {a : Addr} {ds' : List D} {vs vs' : List V} {v : V} (h : R B (T ++ [(d, v)]) ρ σ H F) (e : ρ.vs[i]? = some (.ow (.lst true ds))) (ev : σ[i]? = some (some (.ref a))) (ha : H a = some (.lst vs)) (hz : vs'.length ≤ sizeLine)
    (step : ∀ {Hs : Hp} {F G : List Addr}, (∀ b o, Hs b = some o → H b = some o) → RpL B.S H Hs ds vs F → Rp B.S H Hs d v G → F.Nodup → G.Nodup → (∀ x, x ∈ F → x ∉ G) → ∃ F', RpL B.S H Hs ds' vs' F' ∧ (∀ x ∈ F', x ∈ F ∨ x ∈ G) ∧ F'.Nodup) :
    R B T { ρ with vs := ρ.vs.set i (.ow (.lst true ds')) } σ (upd H a (.lst vs')) F := by
  obtain ⟨vs2, ha2, hl, k⟩ := h.mutL e ev
  rw [ha] at ha2; cases ha2
  exact k ds' vs' (fun {Hs F G} hs r1 r2 n1 n2 dj => step hs r1 (one_rpl r2) n1 n2 dj) hz
/-- the j-th exchanged -/
theorem RpL.set {S : Gs} {H Hs : Hp} {d : D} {v : V} {G : List Addr} (h : Rp S H Hs d v G) (ndG : G.Nodup) : ∀ {ds : List D} {vs : List V} {F : List Addr} (j : Nat), RpL S H Hs ds vs F → F.Nodup → (∀ x, x ∈ F → x ∉ G) →
    ∃ F', RpL S H Hs (ds.set j d) (vs.set j v) F' ∧ (∀ x ∈ F', x ∈ F ∨ x ∈ G) ∧ F'.Nodup
  | _, _, _, _, .nil, nd, _ => ⟨[], .nil, fun _ z => (nomatch z), nd⟩
  | _, _, _, 0, .cons (F := F1) (G := F2) q r, nd, dj => by
    obtain ⟨n1, n2, n3⟩ := List.nodup_append.mp nd
    exact ⟨G ++ F2, .cons h r, fun x hx => (List.mem_append.mp hx).elim .inr fun z => .inl (List.mem_append_right _ z),
      List.nodup_append.mpr ⟨ndG, n2, fun x hx y hy e => dj y (List.mem_append_right _ hy) (e ▸ hx)⟩⟩
  | _, _, _, j + 1, .cons (F := F1) (G := F2) q r, nd, dj => by
    obtain ⟨n1, n2, n3⟩ := List.nodup_append.mp nd
    obtain ⟨F', r', sub, nd'⟩ := RpL.set h ndG j r n2 fun x hx => dj x (List.mem_append_right _ hx)
    refine ⟨F1 ++ F', .cons q r', fun x hx => ?_, List.nodup_append.mpr ⟨n1, nd', fun x hx y hy e => ?_⟩⟩
    · rcases List.mem_append.mp hx with z | z
      · exact .inl (List.mem_append_left _ z)
      · exact (sub x z).imp (fun z => List.mem_append_right _ z) id
    · subst e
      rcases sub x hy with z | z
      · exact n3 x hx x z rfl
      · exact dj x (List.mem_append_left _ hx) z
/-! ### methods that change an own list -/
theorem tyv_lst {K : PySem.W.Frag} {a : Addr} {vs : List V} (h : H a = some (.lst vs)) : tyV K "list" (.ref a) H := .inl ⟨rfl, _, .inl (.inl h)⟩
theorem own_lst {i : Nat} (r : R B T ρ σ H F) (e : ρ.vs[i]? = some (.ow (.lst true ds))) : ∃ a vs, σ[i]? = some (some (.ref a)) ∧ H a = some (.lst vs) := by
  obtain ⟨fp, p⟩ := r.pt
  obtain ⟨v', ev', r⟩ := (show RpV _ _ _ (.ow (.lst true ds)) _ _ from p.sl i _ e)
  generalize fp (.inr i) = G0 at r
  cases r with
  | lstO h r => exact ⟨_, _, ev', h⟩
def Mo1 (r : V → List V → Hp → VK → Prop) (mo : List D → D → Option (List D)) : Prop := ∀ {S : Gs} {H : Hp} {Hs0 : Hp} {a : Addr} {ds ds' : List D} {vs : List V} {d : D} {v : V} {G0 : List Addr} {Q : VK},
  (∀ b o, Hs0 b = some o → H b = some o) → Rp S H Hs0 d v G0 → H a = some (.lst vs) → ds.length = vs.length → mo ds d = some ds' → ∃ vs', (Q .non (upd H a (.lst vs')) → r (.ref a) [v] H Q) ∧ vs'.length ≤ sizeLine ∧
    ∀ {Hs : Hp} {F G : List Addr}, (∀ b o, Hs b = some o → H b = some o) → RpL S H Hs ds vs F → Rp S H Hs d v G → F.Nodup → G.Nodup → (∀ x, x ∈ F → x ∉ G) → ∃ F', RpL S H Hs ds' vs' F' ∧ (∀ x ∈ F', x ∈ F ∨ x ∈ G) ∧ F'.Nodup
def sMe1 (mo : List D → D → Option (List D)) (i : Nat) (fe : En → Out D) : En → Out Fl := fun ρ => match ρ.vs[i]? with
  | some (.ow (.lst true _)) => (fe ρ).bind fun d ρ' => match ρ'.vs[i]? with
    | some (.ow (.lst true ds)) => match mo ds d with
      | some ds' => .ok .nx { ρ' with vs := ρ'.vs.set i (.ow (.lst true ds')) }
      | none => .no
    | _ => .no
  | _ => .no
theorem hid_sub {M : List Addr} : ∀ b o, hid M H b = some o → H b = some o := fun b o h => (hid_some h).2
theorem es_me1 {i : Nat} {r : V → List V → Hp → VK → Prop} {mo : List D → D → Option (List D)} (hr : Mo1 r mo) (h : PS X (.Expr e pos) (tDrop (tBM X.K "list" r (tVar i) (tCons (cE B fe) tNil)))) : PS X (.Expr e pos) (cS B (sMe1 mo i fe)) := h.imp fun D' σ H ⟨T, ρ, F, rr, q⟩ => by
  unfold sMe1 at q
  split at q
  · rename_i d0 e0
    obtain ⟨a, vs0, ev, ha0⟩ := own_lst rr e0
    refine ⟨_, ev, tyv_lst ha0, T, ρ, F, rr, Out.wp_mono (Out.wp_bind q) (fun d ρ' q v H' F' r' => ?_) fun _ _ z => exS z⟩
    show r (.ref a) [v] H' fun _ H1 => D'.nx σ H1
    split at q
    · rename_i ds e1
      split at q
      · rename_i ds' e2
        obtain ⟨vs, ha, hl, step⟩ := r'.mutL (ts := [(d, v)]) e1 ev
        obtain ⟨G, rb, _⟩ := top_rp r'
        obtain ⟨vs', h1, h2, h3⟩ := hr (Q := fun _ H1 => D'.nx σ H1) hid_sub rb ha hl.symm e2
        have := r'.md
        obtain ⟨fp, p⟩ := r'.pt
        exact h1 (q σ _ F' (R.mutL' r' e1 ev ha h2 fun {Hs F G} hs x y => h3 hs x y))
      · exact q.elim
    · exact q.elim
  · exact q.elim
def moApp (ds : List D) (d : D) : Option (List D) := if ds.length < sizeLine then some (ds ++ [d]) else none
theorem moApp_S : Mo1 rAppend moApp := by
  intro S H Hs0 a ds ds' vs d v G0 Q _ rd ha hl e
  unfold moApp at e
  split at e
  · rename_i hz
    cases e
    refine ⟨vs ++ [v], fun q => ⟨a, vs, v, rfl, rfl, ha, by rw [← hl]; exact hz, q⟩, by simp; omega, fun {Hs F G} _ r1 r2 n1 n2 dj => ⟨F ++ (G ++ []), r1.append (.cons r2 .nil), fun x hx => ?_, ?_⟩⟩
    · rw [List.append_nil] at hx; exact List.mem_append.mp hx
    · rw [List.append_nil]
      exact List.nodup_append.mpr ⟨n1, n2, fun x hx y hy z => dj x hx (z ▸ hy)⟩
  · cases e
/-- xs.extend(t) of a tuple t -/
def rExtT : V → List V → Hp → VK → Prop := fun x vs H Q => ∃ l b xs zs, x = .ref l ∧ vs = [.ref b] ∧ H l = some (.lst xs) ∧ H b = some (.tup zs) ∧ xs.length + zs.length ≤ sizeLine ∧ Q .non (upd H l (.lst (xs ++ zs)))
theorem mt_extT {X : Cx} : MtR X "list.extend" rExtT := by
  intro pins s σ H x vs v us Q I rx rv ⟨l, b, xs, zs, ex, ev, hH, hB, hz, q⟩
  subst ex
  subst ev
  cases rx
  obtain ⟨u, rfl, ru⟩ := rv.one
  cases ru
  obtain ⟨z, its, n, r, hl, e⟩ := I.lstM hH
  obtain ⟨z2, its2, r2, o2, ho, hc, n2, hd⟩ := I.hok b _ hB
  have ez : its.toArray.size + its2.toArray.size ≤ sizeLine := by rw [List.size_toArray, List.size_toArray, ← hl, ← r2.length]; exact hz
  have el : its.toArray.size ≤ sizeLine := by omega
  refine wpAny_call_entry PySem.F.slot_list_extend ⟨_, e, rfl⟩ PySem.F.entry_list_extend ?_ (PySem.F.args_list_extend_2 _ _)
  show wpAny _ _ (Builtin.List.listExtendWith (.ref l) (.ref b) .none) _ _ _
  unfold Builtin.List.listExtendWith
  refine wpAny_bind (wpAny_typeOf ⟨o2, ho, hc⟩ ?_)
  have isT : (Builtin.List.listSameRef (.ref l) (.ref b) || Value.type "tuple" == Value.type "list" || Value.type "tuple" == Value.type "tuple") = true := by simp
  simp only [isT, if_true]
  refine wpAny_bind ?_
  unfold Builtin.List.listItems
  refine wpAny_bind (wpAny_seqItems ho hd (wpAny_pure (wpAny_bind (wpAny_bind (wpAny_seqItems e rfl (wpAny_pure ?_))))))
  have long : (!its.toArray.isEmpty && Builtin.List.listTooLong (its.toArray.size + its2.toArray.size)) = false := by rw [notLongL ez, Bool.and_false]
  simp only [long]
  show wpAny _ _ (updateSeq l (· ++ its2.toArray) >>= fun _ => ret .none) _ _ s
  refine wpAny_bind (wpAny_updateSeq e rfl (hz := el) (_hz' := by rw [Array.size_append]; omega) ?_)
  refine wpAny_pure ⟨_, rfl, .non, _, I.lset (its' := its ++ its2) hH e (by simp) (r.append r2) ?_, rfl, q⟩
  rw [List.length_append]
  exact hz
def rExtA : V → List V → Hp → VK → Prop := fun x vs H Q => rExtend x vs H Q ∨ rExtT x vs H Q
theorem mt_extA {X : Cx} : MtR X "list.extend" rExtA := by
  intro pins s σ H x vs v us Q I rx rv h
  rcases h with h | h
  · exact mt_extend pins s σ H x vs v us Q I rx rv h
  · exact mt_extT pins s σ H x vs v us Q I rx rv h
def moExt (ds : List D) (d : D) : Option (List D) := match d with
  | .lst _ es => if ds.length + es.length ≤ sizeLine then some (ds ++ es) else none
  | .tup es => if ds.length + es.length ≤ sizeLine then some (ds ++ es) else none
  | _ => none
theorem moExt_S : Mo1 rExtA moExt := by
  intro S H Hs0 a ds ds' vs d v G0 Q hs0 rd ha hl e
  unfold moExt at e
  split at e
  · rename_i o es
    split at e
    · rename_i hz
      cases e
      have key : ∀ {Hs : Hp} {G : List Addr}, (∀ b o, Hs b = some o → H b = some o) → Rp S H Hs (.lst o es) v G → ∃ b zs G', v = .ref b ∧ H b = some (.lst zs) ∧ RpL S H Hs es zs G' ∧ (∀ x ∈ G', x ∈ G) ∧ (G.Nodup → G'.Nodup) := by
        intro Hs G hs r
        cases r with
        | lstS h r => exact ⟨_, _, _, rfl, hs _ _ h, r, fun _ z => z, fun z => z⟩
        | lstO h r => exact ⟨_, _, _, rfl, h, r, fun _ z => List.mem_cons_of_mem _ z, fun z => (List.nodup_cons.mp z).2⟩
      obtain ⟨b, zs, G', rfl, hb, rz, _, _⟩ := key hs0 rd
      refine ⟨vs ++ zs, fun q => .inl ⟨a, b, vs, zs, rfl, rfl, ha, hb, by rw [← hl, ← rz.length]; exact hz, q⟩, by rw [List.length_append, ← hl, ← rz.length]; exact hz, fun {Hs F G} hs r1 r2 n1 n2 dj => ?_⟩
      obtain ⟨b', zs', G', eb, hb', rz', sub, nd⟩ := key hs r2
      cases eb
      rw [hb] at hb'; cases hb'
      exact ⟨F ++ G', r1.append rz', fun x hx => (List.mem_append.mp hx).imp id (sub x), List.nodup_append.mpr ⟨n1, nd n2, fun x hx y hy z => dj x hx (z ▸ sub y hy)⟩⟩
    · cases e
  · rename_i es
    split at e
    · rename_i hz
      cases e
      have key : ∀ {Hs : Hp} {G : List Addr}, (∀ b o, Hs b = some o → H b = some o) → Rp S H Hs (.tup es) v G → ∃ b zs, v = .ref b ∧ H b = some (.tup zs) ∧ RpL S H Hs es zs G := by
        intro Hs G hs r
        cases r with
        | tup h r => exact ⟨_, _, rfl, hs _ _ h, r⟩
      obtain ⟨b, zs, rfl, hb, rz⟩ := key hs0 rd
      refine ⟨vs ++ zs, fun q => .inr ⟨a, b, vs, zs, rfl, rfl, ha, hb, by rw [← hl, ← rz.length]; exact hz, q⟩, by rw [List.length_append, ← hl, ← rz.length]; exact hz, fun {Hs F G} hs r1 r2 n1 n2 dj => ?_⟩
      obtain ⟨b', zs', eb, hb', rz'⟩ := key hs r2
      cases eb
      rw [hb] at hb'; cases hb'
      exact ⟨F ++ G, r1.append rz', fun x hx => List.mem_append.mp hx, List.nodup_append.mpr ⟨n1, n2, fun x hx y hy z => dj x hx (z ▸ hy)⟩⟩
    · cases e
  · cases e
end
end Fw

/- part Fw9 -/
namespace Fw
open PySem PySem.Spec PyProof.Rows L2
section
variable {X : Cx} {B : Bs} {T ts : Tm} {ρ : En} {σ : L2.St} {H : Hp} {F : List Addr} {ps : List Opd} {ds : List D} {vs : List V} {Q : VK} {d d1 d2 d3 : D} {e a b tg : Expr} {f fe fk : En → Out D} {pos p pos' : Pos} {pa pb : Opd}
/-! ### isinstance -/
inductive PT where
  | int | bool | str | list | tuple | dict | none
def PT.nm : PT → String
  | .int => "int" | .bool => "bool" | .str => "str" | .list => "list" | .tuple => "tuple" | .dict => "dict" | .none => "NoneType"
def PT.is : PT → PT → Bool
  | .int, .int => true | .bool, .bool => true | .bool, .int => true | .str, .str => true | .list, .list => true | .tuple, .tuple => true | .dict, .dict => true | .none, .none => true
  | _, _ => false
theorem PT.kit : ∀ t c : PT, kitB t.nm c.nm = some (t.is c) := by
  intro t c
  cases t <;> cases c <;> decide +kernel
def tyD : D → PT
  | .non => .none | .bl _ => .bool | .int _ => .int | .str _ => .str | .lst _ _ => .list | .tup _ => .tuple | .dk _ _ _ => .dict | .dt _ _ _ => .dict | .rs => .dict | .ob _ _ _ _ => .none | .ev _ _ _ => .none
def isOb : D → Bool
  | .ob _ _ _ _ => true
  | .ev _ _ _ => true
  | _ => false
theorem tyD_rp {K : PySem.W.Frag} {v : V} {G : List Addr} (h : R B T ρ σ H F) (r : RpB B H F d v G) (nob : isOb d = false) : TyX K H v (.type (tyD d).nm) := by
  obtain ⟨r, _⟩ := r
  cases r with
  | non => exact .base .non
  | bl b => exact .base (.bl b)
  | int b => exact .base (.int b)
  | str b => exact .base (.str b)
  | lstS h _ => exact .base (.lst (hid_sub _ _ h))
  | lstO h _ => exact .base (.lst h)
  | tup h _ => exact .base (.tup (hid_sub _ _ h))
  | dkS h _ =>
    rcases h with h | ⟨_, h⟩
    · exact .base (.dK (hid_sub _ _ h))
    · exact .fDict (hid_sub _ _ h)
  | dkO h _ => exact .base (.dK h)
  | dtS h _ => exact .base (.dT (hid_sub _ _ h))
  | dtO h _ => exact .base (.dT h)
  | rs e =>
    have := h.st
    unfold StOk at this
    rw [e] at this
    exact .base (.dK this.2.1)
  | obS _ _ => cases nob
  | obO _ _ => cases nob
  | ev _ _ _ _ => cases nob
def opIsi (c : PT) : List D → Option D
  | [d] => if isOb d = true then none else some (.bl ((tyD d).is c))
  | _ => none
theorem opIsi_S {K : PySem.W.Frag} {c : PT} : OpS B (rr1 fun x H Q => rIsi K [x, .ty c.nm] H Q) (opIsi c) := by
  intro T ts ρ σ H F ps ds vs Q d h o e q
  unfold opIsi at e
  split at e
  · split at e
    · cases e
    · rename_i nob
      cases e
      obtain ⟨v1, G1, rfl, r1⟩ := o.one h
      exact ⟨_, _, _, _, _, rfl, .ty _, tyD_rp h r1 (by simpa using nob), kit_ty (PT.kit _ c), q _ _ _ (h.drop.push (.bl _))⟩
  · cases e
theorem ev_isi (c : PT) {x : Str} {p2 : Pos} (hg : Gl X "isinstance") (hm : X.mg "isinstance" = none) (hg2 : Gl X x) (hm2 : X.mg x = none) (hv : bootBuiltins x = some (.type c.nm)) (ha : PE X a (tOpd B pa)) (hn : x ≠ "__name__" := by decide) (hdb : (x == ("__debug__" : Str)) = false := by decide)
    (h1 : starEach [a, .Name x p2] X.env = (false, eval a X.env) :: starEach [.Name x p2] X.env := by rfl) (h2 : starEach [.Name x p2] X.env = (false, eval (.Name x p2) X.env) :: starEach [] X.env := by rfl) (hpl : (backTo pos (starEach [.Name x p2] X.env)).any (·.1) = false := by rfl) :
    PE X (.Call (.Name "isinstance" p) [a, .Name x p2] [] pos) (cE B (evOp [pa] (opIsi c))) :=
  (pe_callB call_isi hg hm boot_isinstance (pa_cons ha (pa_cons (pe_bltn (v := .ty c.nm) hg2 hm2 hv rfl hn hdb) pa_nil h2) h1) (by decide) (by decide) h1 hpl).imp fun σ H Q h => op_run (ps := [pa]) opIsi_S h
/-! ### is None -/
def opIsN : List D → Option D
  | [.non, .non] => some (.bl true)
  | [_, .non] => some (.bl false)
  | _ => none
def opNoN : List D → Option D
  | [.non, .non] => some (.bl false)
  | [_, .non] => some (.bl true)
  | _ => none
theorem rp_non {v : V} {G : List Addr} (r : RpB B H F d v G) (h : d ≠ .non) : v ≠ .non := by
  obtain ⟨r, _⟩ := r
  cases r <;> first | exact absurd rfl h | (intro z; cases z)
theorem opIsN_S : OpS B (rr2 fun x y H Q => y = .non ∧ Q (.bl (decide (x = .non))) H) opIsN := by
  intro T ts ρ σ H F ps ds vs Q d h o e q
  unfold opIsN at e
  split at e
  · cases e
    obtain ⟨v1, v2, G1, G2, rfl, r1, r2⟩ := o.two h
    refine ⟨r2.non, ?_⟩
    rw [r1.non]
    exact q _ _ _ (h.drop.push (.bl true))
  · rename_i d1 hne
    cases e
    obtain ⟨v1, v2, G1, G2, rfl, r1, r2⟩ := o.two h
    refine ⟨r2.non, ?_⟩
    rw [decide_eq_false (rp_non r1 fun z => hne (by rw [z]))]
    exact q _ _ _ (h.drop.push (.bl false))
  · cases e
theorem opNoN_S : OpS B (rr2 fun x y H Q => y = .non ∧ Q (.bl (!decide (x = .non))) H) opNoN := by
  intro T ts ρ σ H F ps ds vs Q d h o e q
  unfold opNoN at e
  split at e
  · cases e
    obtain ⟨v1, v2, G1, G2, rfl, r1, r2⟩ := o.two h
    refine ⟨r2.non, ?_⟩
    rw [r1.non]
    exact q _ _ _ (h.drop.push (.bl false))
  · rename_i d1 hne
    cases e
    obtain ⟨v1, v2, G1, G2, rfl, r1, r2⟩ := o.two h
    refine ⟨r2.non, ?_⟩
    rw [decide_eq_false (rp_non r1 fun z => hne (by rw [z]))]
    exact q _ _ _ (h.drop.push (.bl true))
  · cases e
/-! ### == of data -/
mutual
def pyOf : D → Option PyData
  | .non => some .none
  | .bl b => some (.bool b)
  | .int i => some (.int i)
  | .str x => some (.str x)
  | .lst _ xs => (pyOfL xs).map .list
  | .tup xs => (pyOfL xs).map .tuple
  | .dk _ _ _ => none
  | .dt _ _ _ => none
  | .rs => none
  | .ob _ _ _ _ => none
  | .ev _ _ _ => none
def pyOfL : List D → Option (List PyData)
  | [] => some []
  | d :: ds => (pyOf d).bind fun x => (pyOfL ds).map (x :: ·)
end
mutual
theorem Rp.dp {S : Gs} {H Hs : Hp} {K : PySem.W.Frag} (hs : ∀ b o, Hs b = some o → H b = some o) : ∀ {d : D} {v : V} {G : List Addr} {y : PyData}, Rp S H Hs d v G → pyOf d = some y → Dp K H v y
  | _, _, _, _, .non, e => by rw [pyOf] at e; cases e; exact .non
  | _, _, _, _, .bl b, e => by rw [pyOf] at e; cases e; exact .bl b
  | _, _, _, _, .int b, e => by rw [pyOf] at e; cases e; exact .int b
  | _, _, _, _, .str b, e => by rw [pyOf] at e; cases e; exact .str b
  | _, _, _, _, .rs h, e => by rw [pyOf] at e; cases e
  | _, _, _, _, .lstS h r, e => by
    rw [pyOf] at e
    obtain ⟨ys, e1, e2⟩ := Option.map_eq_some_iff.mp e
    subst e2
    exact .lst (SqL.of (hs _ _ h)) (RpL.dp hs r e1)
  | _, _, _, _, .lstO h r, e => by
    rw [pyOf] at e
    obtain ⟨ys, e1, e2⟩ := Option.map_eq_some_iff.mp e
    subst e2
    exact .lst (SqL.of h) (RpL.dp hs r e1)
  | _, _, _, _, .tup h r, e => by
    rw [pyOf] at e
    obtain ⟨ys, e1, e2⟩ := Option.map_eq_some_iff.mp e
    subst e2
    exact .tup (SqT.of (hs _ _ h)) (RpL.dp hs r e1)
  | _, _, _, _, .dkS h r, e => by rw [pyOf] at e; cases e
  | _, _, _, _, .dkO h r, e => by rw [pyOf] at e; cases e
  | _, _, _, _, .dtS h r, e => by rw [pyOf] at e; cases e
  | _, _, _, _, .dtO h r, e => by rw [pyOf] at e; cases e
  | _, _, _, _, .obS h r, e => by rw [pyOf] at e; cases e
  | _, _, _, _, .obO h r, e => by rw [pyOf] at e; cases e
  | _, _, _, _, .ev h hd r z, e => by rw [pyOf] at e; cases e
theorem RpL.dp {S : Gs} {H Hs : Hp} {K : PySem.W.Frag} (hs : ∀ b o, Hs b = some o → H b = some o) : ∀ {ds : List D} {vs : List V} {G : List Addr} {ys : List PyData}, RpL S H Hs ds vs G → pyOfL ds = some ys → DpAll K H vs ys
  | _, _, _, _, .nil, e => by rw [pyOfL] at e; cases e; exact .nil
  | _, _, _, _, .cons h r, e => by
    rw [pyOfL] at e
    obtain ⟨x, e1, e2⟩ := Option.bind_eq_some_iff.mp e
    obtain ⟨ys, e3, e4⟩ := Option.map_eq_some_iff.mp e2
    subst e4
    exact .cons (Rp.dp hs h e1) (RpL.dp hs r e3)
end
def eqvD (a b : D) : Option Bool := match eqS a b with
  | some k => some k
  | none => match pyOf a, pyOf b with
    | some x, some y => if SeqAt.shaped x = true ∧ SeqAt.shaped y = true then some (PyData.eqv x y) else none
    | _, _ => none
def opEq : List D → Option D
  | [a, b] => (eqvD a b).map .bl
  | _ => none
def opNe : List D → Option D
  | [a, b] => (eqvD a b).map fun k => .bl (!k)
  | _ => none
def rEqA (K : PySem.W.Frag) : R2 := fun x y H Q => rEq x y H Q ∨ rEqD K x y H Q
def rNeA (K : PySem.W.Frag) : R2 := fun x y H Q => rNe x y H Q ∨ rNeD K x y H Q
theorem op_eqA (hu : X.A.units + 64 < cLine) : OpR X (compareOp .Eq) (rEqA X.K) := OpR.or op_eq (op_eqD hu)
theorem op_neA (hu : X.A.units + 64 < cLine) : OpR X (compareOp .NotEq) (rNeA X.K) := OpR.or op_ne (op_neD hu)
theorem opEq_S {K : PySem.W.Frag} : OpS B (rr2 (rEqA K)) opEq := by
  intro T ts ρ σ H F ps ds vs Q d h o e q
  unfold opEq at e
  split at e
  · obtain ⟨v1, v2, G1, G2, rfl, r1, r2⟩ := o.two h
    obtain ⟨k, e1, e2⟩ := Option.map_eq_some_iff.mp e
    subst e2
    unfold eqvD at e1
    split at e1
    · rename_i k' ek
      cases e1
      obtain ⟨s1, s2⟩ := eqS_rp r1 r2 ek
      exact .inl ⟨s1, by rw [s2]; exact q _ _ _ (h.drop.push (.bl _))⟩
    · split at e1
      · rename_i x y ex ey
        split at e1
        · rename_i hsh
          cases e1
          exact .inr ⟨x, y, r1.1.dp hid_sub ex, r2.1.dp hid_sub ey, hsh.1, hsh.2, q _ _ _ (h.drop.push (.bl _))⟩
        · cases e1
      · cases e1
  · cases e
theorem opNe_S {K : PySem.W.Frag} : OpS B (rr2 (rNeA K)) opNe := by
  intro T ts ρ σ H F ps ds vs Q d h o e q
  unfold opNe at e
  split at e
  · obtain ⟨v1, v2, G1, G2, rfl, r1, r2⟩ := o.two h
    obtain ⟨k, e1, e2⟩ := Option.map_eq_some_iff.mp e
    subst e2
    unfold eqvD at e1
    split at e1
    · rename_i k' ek
      cases e1
      obtain ⟨s1, s2⟩ := eqS_rp r1 r2 ek
      exact .inl ⟨s1, by rw [s2]; exact q _ _ _ (h.drop.push (.bl _))⟩
    · split at e1
      · rename_i x y ex ey
        split at e1
        · rename_i hsh
          cases e1
          exact .inr ⟨x, y, r1.1.dp hid_sub ex, r2.1.dp hid_sub ey, hsh.1, hsh.2, q _ _ _ (h.drop.push (.bl _))⟩
        · cases e1
      · cases e1
  · cases e
/-! ### in, not in -/
def flD : D → Option V
  | .non => some .non
  | .bl b => some (.bl b)
  | .int i => some (.int i)
  | .str x => some (.str x)
  | _ => none
def flDs : List D → Option (List V)
  | [] => some []
  | d :: ds => (flD d).bind fun x => (flDs ds).map (x :: ·)
theorem flD_rp {S : Gs} {Hs : Hp} {v w : V} {G : List Addr} (r : Rp S H Hs d v G) (e : flD d = some w) : v = w ∧ flatV v = true := by
  cases r <;> simp [flD] at e <;> subst e <;> exact ⟨rfl, rfl⟩
theorem flDs_rp {S : Gs} {Hs : Hp} : ∀ {ds : List D} {vs ws : List V} {G : List Addr}, RpL S H Hs ds vs G → flDs ds = some ws → vs = ws ∧ vs.all flatV = true
  | _, _, _, _, .nil, e => by rw [flDs] at e; cases e; exact ⟨rfl, rfl⟩
  | _, _, _, _, .cons h r, e => by
    rw [flDs] at e
    obtain ⟨x, e1, e2⟩ := Option.bind_eq_some_iff.mp e
    obtain ⟨ys, e3, e4⟩ := Option.map_eq_some_iff.mp e2
    subst e4
    obtain ⟨h1, h2⟩ := flD_rp h e1
    obtain ⟨h3, h4⟩ := flDs_rp r e3
    exact ⟨by rw [h1, h3], by rw [List.all_cons, h2, h4]; rfl⟩
def keyD : D → Option Key
  | .int i => some (.inl i)
  | .str x => some (.inr x)
  | _ => none
theorem keyD_rp {S : Gs} {Hs : Hp} {v : V} {G : List Addr} {k : Key} (r : Rp S H Hs d v G) (e : keyD d = some k) : v = kV k := by
  cases r <;> simp [keyD] at e <;> subst e <;> rfl
def getD : List Key → List D → Key → Option D
  | k :: ks, x :: xs, q => if k = q then some x else getD ks xs q
  | _, _, _ => none
theorem getD_rp {S : Gs} {Hs : Hp} {q : Key} : ∀ {kvs : List (Key × V)} {ds : List D} {G : List Addr}, RpL S H Hs ds (kvs.map (·.2)) G → match getD (kvs.map (·.1)) ds q with
    | some d => ∃ v G', valV kvs q = some v ∧ Rp S H Hs d v G' ∧ ∀ x ∈ G', x ∈ G
    | none => valV kvs q = none
  | [], ds, G, r => by
    cases r
    show valV [] q = none
    rfl
  | (k, v) :: kvs, ds, G, r => by
    generalize hvs : ((k, v) :: kvs).map (·.2) = vs at r
    cases r with
    | nil => cases hvs
    | @cons d0 v0 ds vs F1 G1 h r =>
      rw [List.map_cons] at hvs
      injection hvs with e1 e2
      subst e1; subst e2
      rw [List.map_cons, getD]
      dsimp only
      by_cases hk : k = q
      · rw [if_pos hk]
        exact ⟨v, F1, valV_pos (p := (k, v)) hk, h, fun x hx => List.mem_append_left _ hx⟩
      · rw [if_neg hk]
        have ih := getD_rp (q := q) r
        rw [valV_neg (p := (k, v)) hk]
        split at ih
        · rename_i d' ed
          obtain ⟨v', G', h1, h2, h3⟩ := ih
          exact ⟨v', G', h1, h2, fun x hx => List.mem_append_right _ (h3 x hx)⟩
        · rename_i ed
          exact ih
/-- is it in the list, the tuple, the dict -/
def inD (x s : D) : Option Bool := match s with
  | .dk _ ks xs => (keyD x).map fun k => (getD ks xs k).isSome
  | .lst _ xs => (flD x).bind fun v => (flDs xs).map fun vs => inV v vs
  | .tup xs => (flD x).bind fun v => (flDs xs).map fun vs => inV v vs
  | _ => none
def rInA (K : PySem.W.Frag) (neg : Bool) : R2 := fun x y H Q => rIn K neg x y H Q ∨ ∃ a o, y = .ref a ∧ DGet H a x o ∧ Q (.bl (if neg then !o.isSome else o.isSome)) H
theorem op_inA (hu : X.A.units + 1 < cLine) : OpR X (compareOp .In) (rInA X.K false) := OpR.or op_in_seq (by
  intro pins s σ H x y v u Q I rx ry ⟨a, o, ey, g, q⟩
  subst ey
  cases ry
  exact d_in hu I g rx fun s' I' => ⟨.bl o.isSome, H, I', rfl, q⟩)
theorem op_notInA (hu : X.A.units + 1 < cLine) : OpR X (compareOp .NotIn) (rInA X.K true) := OpR.or op_notIn_seq (by
  intro pins s σ H x y v u Q I rx ry ⟨a, o, ey, g, q⟩
  subst ey
  cases ry
  exact d_notIn hu I g rx fun s' I' => ⟨.bl (!o.isSome), H, I', rfl, q⟩)
def opIn (neg : Bool) : List D → Option D
  | [x, s] => (inD x s).map fun k => .bl (if neg then !k else k)
  | _ => none
theorem dk_rp {S : Gs} {Hs : Hp} {v : V} {G : List Addr} {o : Bool} {ks : List Key} {xs : List D} (hs : ∀ b o, Hs b = some o → H b = some o) (r : Rp S H Hs (.dk o ks xs) v G) : ∃ a kvs G', v = .ref a ∧ Rd H a (.dK kvs) ∧ ks = kvs.map (·.1) ∧ RpL S H Hs xs (kvs.map (·.2)) G' ∧ ∀ x ∈ G', x ∈ G := by
  generalize e : D.dk o ks xs = d at r
  cases r <;> cases e
  · rename_i h r
    exact ⟨_, _, _, rfl, rd_mono h hs, rfl, r, fun _ z => z⟩
  · rename_i h r
    exact ⟨_, _, _, rfl, .inl h, rfl, r, fun _ z => List.mem_cons_of_mem _ z⟩
theorem dk_own {S : Gs} {Hs : Hp} {v : V} {G : List Addr} {ks : List Key} {xs : List D} (r : Rp S H Hs (.dk true ks xs) v G) : ∃ a kvs G', v = .ref a ∧ H a = some (.dK kvs) ∧ ks = kvs.map (·.1) ∧ RpL S H Hs xs (kvs.map (·.2)) G' ∧ ∀ x ∈ G', x ∈ G := by
  generalize e : D.dk true ks xs = d at r
  cases r <;> cases e
  rename_i h r
  exact ⟨_, _, _, rfl, h, rfl, r, fun _ z => List.mem_cons_of_mem _ z⟩
theorem opIn_S {K : PySem.W.Frag} {neg : Bool} : OpS B (rr2 (rInA K neg)) (opIn neg) := by
  intro T ts ρ σ H F ps ds vs Q d h o e q
  unfold opIn at e
  split at e
  · obtain ⟨v1, v2, G1, G2, rfl, r1, r2⟩ := o.two h
    obtain ⟨k, e1, e2⟩ := Option.map_eq_some_iff.mp e
    subst e2
    unfold inD at e1
    split at e1
    · obtain ⟨k', e3, e4⟩ := Option.map_eq_some_iff.mp e1
      subst e4
      obtain ⟨a, kvs, G', rfl, ha, rfl, rl, _⟩ := dk_rp hid_sub r2.1
      have g := getD_rp (q := k') rl
      rw [keyD_rp r1.1 e3]
      refine .inr ⟨a, _, rfl, .inl ⟨_, _, ha, rfl, rfl⟩, ?_⟩
      split at g
      · rename_i dd ed
        obtain ⟨v, G'', h1, _, _⟩ := g
        rw [h1]
        rw [ed] at q
        exact q _ _ _ (h.drop.push (.bl _))
      · rename_i ed
        rw [g]
        rw [ed] at q
        exact q _ _ _ (h.drop.push (.bl _))
    · obtain ⟨x, e3, e4⟩ := Option.bind_eq_some_iff.mp e1
      obtain ⟨ws, e5, e6⟩ := Option.map_eq_some_iff.mp e4
      subst e6
      obtain ⟨a, vs, G', rfl, ha, rl⟩ := seqR_lst r2
      obtain ⟨rfl, fx⟩ := flD_rp r1.1 e3
      obtain ⟨rfl, fs⟩ := flDs_rp rl e5
      exact .inl ⟨a, _, rfl, .inl (SqL.of ha), fx, fs, q _ _ _ (h.drop.push (.bl _))⟩
    · obtain ⟨x, e3, e4⟩ := Option.bind_eq_some_iff.mp e1
      obtain ⟨ws, e5, e6⟩ := Option.map_eq_some_iff.mp e4
      subst e6
      obtain ⟨rt, _⟩ := r2
      cases rt with
      | tup ht rl =>
        obtain ⟨rfl, fx⟩ := flD_rp r1.1 e3
        obtain ⟨rfl, fs⟩ := flDs_rp rl e5
        exact .inl ⟨_, _, rfl, .inr (SqT.of (hid_sub _ _ ht)), fx, fs, q _ _ _ (h.drop.push (.bl _))⟩
    · cases e1
  · cases e
end
end Fw

/- part FwS -/
namespace Fw
open PySem PySem.Spec PyProof.Rows L2
/-! set(xs) of a list of ints, then sorted of it -/
/-- the set object as it is made -/
def mtSet (w : World) : Obj := { cls := .type "set", dict := none, data := .set #[] 0 (.fresh 0 0 (!w.params.followText "set-order")) }
section
variable {P : Program} {w : World} {A : Around} {E : Value → Shared → Prop} {s : Shared}
def SetMade (w : World) (s : Shared) (ns : List Int) (s2 : Shared) : Prop := ∃ (h' : Heap) (tk c : Nat), s2 = { s with heap := h', toks := tk } ∧ SetR w h' s.heap.objs.size (fun j => decide (j ∈ ns)) c ∧ c ≤ ns.length ∧ ∀ b o, s.heap.get? b = some o → h'.get? b = some o
set_option maxHeartbeats 4000000 in
/-- the set's filling from a list -/
theorem fill_list {l : Addr} {items : Array Value} {ns : List Int} (hh : A.handled = none) (hl : s.heap.IsList l items) (hi : IntsAre items.toList ns) (hb : ns.length + 1 < scanBound) :
    codeAny (model P w) A (.call (.builtin "set.__init__") ⟨[.ref s.heap.objs.size, .ref l], []⟩) (wants (fun r s2 => r = .none ∧ SetMade w s ns s2) E) { s with heap := s.heap.push (mtSet w) } := by
  have sz : items.size = ns.length := by rw [← Array.length_toList]; exact hi.length
  obtain ⟨g, eg⟩ : ∃ g, g = s.heap.push (mtSet w) := ⟨_, rfl⟩
  have gset : g.get? s.heap.objs.size = some (mtSet w) := by rw [eg]; exact Heap.get?_push_size _ rfl
  have gold : ∀ b o, s.heap.get? b = some o → g.get? b = some o := fun b o q => by rw [eg]; exact Heap.get?_push_of_some _ q
  have gsz : g.objs.size = s.heap.objs.size + 1 := by rw [eg]; exact Heap.size_push ..
  obtain ⟨oL, hoL, cL, nL, dL⟩ := id hl
  have lsmall : l < s.heap.objs.size := Heap.lt_size hoL
  have gl : g.IsList l items := ⟨oL, gold _ _ hoL, cL, nL, dL⟩
  rw [← eg]
  have tS : Shared.TypeIs { s with heap := g } (.ref s.heap.objs.size) "set" := ⟨mtSet w, gset, rfl⟩
  refine codeAny_call_builtin F.called_set.init.plain F.entry_set_init (check_set_init_1 tS ?_)
  have q1 := F.sub_list_set
  have q2 := F.sub_list_frozenset
  have q3 : (Value.type "list" == Value.type "dict") = false := by decide
  have tL : Shared.TypeIs { s with heap := g } (.ref l) "list" := ⟨oL, gold _ _ hoL, cL⟩
  unfold Builtin.«set.__init__» noKeywords Builtin.Frozenset.updateFrom
  obtain ⟨⟨cls, dct, dat, sl⟩, hoL', c2, n2, d2⟩ := id gl
  simp only at c2 d2
  subst c2; subst d2
  unfold mtSet at gset
  generalize eI : pyIter = PI
  wp_walk
  subst eI
  refine wpAny_pyIter_list gl (wpAny_bind (wpAny_runValue ?_))
  have dist : l ≠ g.objs.size := Nat.ne_of_lt (Nat.lt_trans lsmall (show s.heap.objs.size < g.objs.size by omega))
  have apart : s.heap.objs.size ∉ [g.objs.size, l] := by
    intro z
    rcases List.mem_cons.mp z with z | z
    · exact Nat.ne_of_lt (show s.heap.objs.size < g.objs.size by omega) z
    · exact Nat.ne_of_lt lsmall (List.mem_singleton.mp z).symm
  have vals : ∀ (i : Nat) (v : Value), items[i]? = some v → ∃ k t, ns[i]? = some k ∧ v = .int k t := fun i v hv => by
    have lt : i < ns.length := by rw [← sz]; exact (Array.getElem?_eq_some_iff.mp hv).1
    obtain ⟨t, e⟩ := IntsAre.int_at hi i v (by rw [Array.getElem?_toList]; exact hv)
    exact ⟨ns[i], t, List.getElem?_eq_getElem lt, by rw [e, List.getD_eq_getElem?_getD, List.getElem?_eq_getElem lt]; rfl⟩
  have hA : A.in1.in1.handled = none := hh
  refine set_update_ints (Walks.list hA _ l dist items).toS s.heap.objs.size apart ns sz hb vals (items.size - 0) 0 _ rfl (Nat.zero_le _) ⟨⟨_, Heap.get?_push_size _ rfl, rfl, rfl⟩, gl.push _⟩ ?start ?fin
  case start => exact ⟨0, Nat.le_refl 0, setR_new_at (Heap.get?_push_of_some _ gset)⟩
  case fin =>
    rintro ⟨h2, g2, d3, tk, os⟩ c mv hc hS
    obtain rfl : g2 = s.gens := mv.gens
    obtain rfl : d3 = s.drawn := mv.drawn
    obtain rfl : os = s.os := mv.os
    refine wpAny_pure (wpAny_pure ⟨rfl, h2, tk, c, rfl, hS, by omega, fun b o q => mv.heap b o ?_ (Heap.get?_push_of_some _ (gold b o q))⟩)
    have lt : b < s.heap.objs.size := Heap.lt_size q
    intro z
    rcases List.mem_cons.mp z with z | z
    · exact Nat.ne_of_lt lt z
    · exact Nat.ne_of_lt (Nat.lt_trans lt (show s.heap.objs.size < g.objs.size by omega)) (List.mem_singleton.mp z)
set_option maxHeartbeats 4000000 in
theorem call_setL {l : Addr} {items : Array Value} {ns : List Int} {Q : Value → Shared → Prop} (hh : A.handled = none) (hl : s.heap.IsList l items) (hi : IntsAre items.toList ns) (hb : ns.length + 1 < scanBound)
    (h : ∀ s2, SetMade w s ns s2 → Q (.ref s.heap.objs.size) s2) : wpAny (model P w) A (call (.type "set") [.ref l]) Q E s := by
  obtain ⟨mc, ml, m1⟩ := F.called_set.mro
  have m2 := F.called_set.made
  have m3 := F.called_set.sub
  refine wpAny_call (codeAny_of_tree ?_)
  show wpAny _ _ (callAny (.type "set") ⟨[.ref l], []⟩) _ _ _
  refine wpAny_pure ⟨Code.quiet_builtin _ (by decide +kernel), codeAny_builtin F.entry_type_call ?_⟩
  rw [Around.under_plain (weight_type_call_type "set" [.ref l] []) rfl]
  have m4 := F.called_set.notType
  have m5 := F.called_set.canCreate
  have m6 := F.typeCall_set_1 (.ref l)
  repeat (any_goals (first | assumption | wp_step))
  have made : codeAny (model P w) A.in1 (.call (.builtin "set.__new__") ⟨[.type "set", .ref l], []⟩) (wants (fun v s1 => v = .ref s.heap.objs.size ∧ s1 = { s with heap := s.heap.push (mtSet w) }) E) s := code_set_led1 (.ref l) ⟨rfl, rfl⟩
  refine codeAny_mono made fun r s1 hr => ?_
  match r, hr with
  | .error _, hr => exact hr
  | .ok .next, hr => exact hr.elim
  | .ok .brk, hr => exact hr.elim
  | .ok .cont, hr => exact hr.elim
  | .ok (.ret v), hr =>
    obtain ⟨rfl, rfl⟩ := hr
    have gset : (s.heap.push (mtSet w)).get? s.heap.objs.size = some (mtSet w) := Heap.get?_push_size _ rfl
    have tS : Shared.TypeIs { s with heap := s.heap.push (mtSet w) } (.ref s.heap.objs.size) "set" := ⟨_, gset, rfl⟩
    have m7 := F.called_set.init.lookup
    have m8 := F.called_set.init.bind (.ref s.heap.objs.size)
    repeat (any_goals (first | assumption | wp_step))
    refine codeAny_mono (fill_list (E := E) hh hl hi hb) fun r2 s2 hr2 => ?_
    match r2, hr2 with
    | .error _, hr2 => exact hr2
    | .ok .next, hr2 => exact hr2.elim
    | .ok .brk, hr2 => exact hr2.elim
    | .ok .cont, hr2 => exact hr2.elim
    | .ok (.ret v), hr2 =>
      obtain ⟨rfl, hm⟩ := hr2
      have fin := h s2 hm
      repeat (any_goals (first | assumption | wp_step))
end
/-- set(xs): the set, new -/
def rSetL (K : PySem.W.Frag) (w : World) : List V → Hp → VK → Prop := fun vs H Q => ∃ (a : Addr) (ns : List Int), vs = [.ref a] ∧ SqL K H a (ns.map V.int) ∧ ns.length < 4000 ∧ ∀ p c, H p = none → c ≤ ns.length → Q (.ref p) (upd H p (SetO w p (fun j => decide (j ∈ ns)) c))
theorem call_setInts {X : Cx} (hc : X.calm = true) : CallR X (.type "set") (rSetL X.K X.w) := by
  intro pins s σ H vs us Q I r ⟨a, ns, e, hs, h64, q⟩
  subst e
  rw [Vals.ref1 r]
  obtain ⟨its, rv, pl, hz⟩ := I.list hs
  have hi : IntsAre its.toArray.toList ns := by simpa using intsAre_of rv
  refine call_setL (I.ok.hd hc) pl.isList hi (by unfold scanBound; omega) fun s2 ⟨h', tk, c, e2, R2, hc2, k⟩ => ?_
  subst e2
  exact ⟨.ref s.heap.objs.size, _, I.laid (t' := tk) k (Nat.le_refl _) (setO_new R2), rfl, q _ c (I.hok.fresh (Nat.le_refl _)) hc2⟩
/-- set(t) of a tuple -/
def rSetTp (w : World) : List V → Hp → VK → Prop := fun vs H Q => ∃ (a : Addr) (ns : List Int), vs = [.ref a] ∧ H a = some (.tup (ns.map V.int)) ∧ ns.length < 4000 ∧ ∀ p c, H p = none → c ≤ ns.length → Q (.ref p) (upd H p (SetO w p (fun j => decide (j ∈ ns)) c))
theorem call_setTp {X : Cx} (hc : X.calm = true) : CallR X (.type "set") (rSetTp X.w) := by
  intro pins s σ H vs us Q I r ⟨a, ns, e, hs, h64, q⟩
  subst e
  rw [Vals.ref1 r]
  obtain ⟨z, its, rv, pl⟩ := I.hok a _ hs
  have hi : IntsAre its.toArray.toList ns := by simpa using intsAre_of rv
  refine call_set_tupI ns (I.ok.hd hc) (show s.heap.IsTuple a its.toArray from pl) hi (by unfold scanBound; omega) fun h' tk c R2 hc2 k => ?_
  exact ⟨.ref s.heap.objs.size, _, I.laid (t' := tk) k (Nat.le_refl _) (setO_new R2), rfl, q _ c (I.hok.fresh (Nat.le_refl _)) hc2⟩
def rSetAny (K : PySem.W.Frag) (w : World) : List V → Hp → VK → Prop := fun vs H Q => rSetL K w vs H Q ∨ rSetTp w vs H Q
theorem call_setA {X : Cx} (hc : X.calm = true) : CallR X (.type "set") (rSetAny X.K X.w) := (call_setInts hc).or (call_setTp hc)
end Fw

/- part FwA -/
namespace Fw
open PySem PySem.Spec PyProof.Rows L2
/-! ### ints in order -/
def insI (x : Int) : List Int → List Int
  | [] => [x]
  | y :: ys => if x ≤ y then x :: y :: ys else y :: insI x ys
def sortI : List Int → List Int
  | [] => []
  | x :: xs => insI x (sortI xs)
theorem insI_perm (x : Int) : ∀ ys, (insI x ys).Perm (x :: ys)
  | [] => .refl _
  | y :: ys => by
    rw [insI]
    split
    · exact .refl _
    · exact ((insI_perm x ys).cons y).trans (.swap x y ys)
theorem insI_mem {x z : Int} {ys : List Int} : z ∈ insI x ys ↔ z = x ∨ z ∈ ys := by rw [(insI_perm x ys).mem_iff, List.mem_cons]
theorem insI_sorted (x : Int) : ∀ ys : List Int, ys.Pairwise (· ≤ ·) → (insI x ys).Pairwise (· ≤ ·)
  | [], _ => by simp [insI]
  | y :: ys, h => by
    obtain ⟨h1, h2⟩ := List.pairwise_cons.mp h
    rw [insI]
    split
    · rename_i hxy
      exact List.pairwise_cons.mpr ⟨fun z hz => (List.mem_cons.mp hz).elim (fun e => e ▸ hxy) fun hz => Int.le_trans hxy (h1 z hz), h⟩
    · exact List.pairwise_cons.mpr ⟨fun z hz => (insI_mem.mp hz).elim (fun e => by omega) (h1 z), insI_sorted x ys h2⟩
theorem sortI_perm : ∀ xs, (sortI xs).Perm xs
  | [] => .refl _
  | x :: xs => (insI_perm x _).trans ((sortI_perm xs).cons x)
theorem sortI_sorted : ∀ xs, (sortI xs).Pairwise (· ≤ ·)
  | [] => .nil
  | x :: xs => insI_sorted x _ (sortI_sorted xs)
theorem sortI_eq {xs ys : List Int} (h : ys.Perm xs) (s : ys.Pairwise (· ≤ ·)) : ys = sortI xs := PySem.W.ksm_same (h.trans (sortI_perm xs).symm) s (sortI_sorted xs)
/-- in order, each once -/
def insU (x : Int) : List Int → List Int
  | [] => [x]
  | y :: ys => if x < y then x :: y :: ys else if x = y then y :: ys else y :: insU x ys
def sortU : List Int → List Int
  | [] => []
  | x :: xs => insU x (sortU xs)
theorem insU_mem {x z : Int} : ∀ {ys : List Int}, z ∈ insU x ys ↔ z = x ∨ z ∈ ys
  | [] => by simp [insU]
  | y :: ys => by
    rw [insU]
    split
    · simp
    · split
      · rename_i e
        subst e
        simp
      · rw [List.mem_cons, insU_mem (ys := ys), List.mem_cons]
        constructor
        · rintro (h | h | h)
          · exact .inr (.inl h)
          · exact .inl h
          · exact .inr (.inr h)
        · rintro (h | h | h)
          · exact .inr (.inl h)
          · exact .inl h
          · exact .inr (.inr h)
theorem insU_sorted (x : Int) : ∀ ys : List Int, ys.Pairwise (· < ·) → (insU x ys).Pairwise (· < ·)
  | [], _ => by simp [insU]
  | y :: ys, h => by
    obtain ⟨h1, h2⟩ := List.pairwise_cons.mp h
    rw [insU]
    split
    · rename_i hxy
      exact List.pairwise_cons.mpr ⟨fun z hz => (List.mem_cons.mp hz).elim (fun e => e ▸ hxy) fun hz => Int.lt_trans hxy (h1 z hz), h⟩
    · split
      · exact h
      · exact List.pairwise_cons.mpr ⟨fun z hz => (insU_mem.mp hz).elim (fun e => by omega) (h1 z), insU_sorted x ys h2⟩
theorem sortU_mem {z : Int} : ∀ {xs : List Int}, z ∈ sortU xs ↔ z ∈ xs
  | [] => by simp [sortU]
  | x :: xs => by rw [sortU, insU_mem, sortU_mem (xs := xs), List.mem_cons]
theorem sortU_sorted : ∀ xs, (sortU xs).Pairwise (· < ·)
  | [] => .nil
  | x :: xs => insU_sorted x _ (sortU_sorted xs)
theorem strict_same : ∀ {a b : List Int}, a.Pairwise (· < ·) → b.Pairwise (· < ·) → (∀ z, z ∈ a ↔ z ∈ b) → a = b
  | [], [], _, _, _ => rfl
  | [], y :: b, _, _, h => absurd ((h y).mpr List.mem_cons_self) (by simp)
  | x :: a, [], _, _, h => absurd ((h x).mp List.mem_cons_self) (by simp)
  | x :: a, y :: b, ha, hb, h => by
    obtain ⟨a1, a2⟩ := List.pairwise_cons.mp ha
    obtain ⟨b1, b2⟩ := List.pairwise_cons.mp hb
    have e : x = y := by
      rcases List.mem_cons.mp ((h x).mp List.mem_cons_self) with e | e
      · exact e
      · rcases List.mem_cons.mp ((h y).mpr List.mem_cons_self) with e2 | e2
        · exact e2.symm
        · have := b1 x e
          have := a1 y e2
          omega
    subst e
    rw [strict_same a2 b2 fun z => ?_]
    constructor
    · intro hz
      rcases List.mem_cons.mp ((h z).mp (List.mem_cons_of_mem _ hz)) with e | e
      · subst e; exact absurd (a1 z hz) (Int.lt_irrefl _)
      · exact e
    · intro hz
      rcases List.mem_cons.mp ((h z).mpr (List.mem_cons_of_mem _ hz)) with e | e
      · subst e; exact absurd (b1 z hz) (Int.lt_irrefl _)
      · exact e
theorem sortU_eq {xs ys : List Int} (s : ys.Pairwise (· < ·)) (h : ∀ z, z ∈ ys ↔ z ∈ xs) : ys = sortU xs := strict_same s (sortU_sorted xs) fun z => by rw [h, sortU_mem]
section
variable {X : Cx} {B : Bs} {T ts : Tm} {ρ : En} {σ : L2.St} {H : Hp} {F : List Addr} {ps : List Opd} {ds : List D} {vs : List V} {Q : VK} {d d1 d2 d3 : D} {e a b tg o : Expr} {f fe fk : En → Out D} {pos p p2 pos' pos2 : Pos} {pa pb pc : Opd}
theorem seqR_tup {v : V} {G : List Addr} {xs : List D} (r : RpB B H F (.tup xs) v G) : ∃ a vs G', v = .ref a ∧ H a = some (.tup vs) ∧ RpL B.S H (hid (B.M ++ F) H) xs vs G' := by
  obtain ⟨r, _⟩ := r
  cases r with
  | tup h r => exact ⟨_, _, _, rfl, hid_sub _ _ h, r⟩
def intKeys : List Key → Option (List Int)
  | [] => some []
  | .inl i :: ks => (intKeys ks).map (i :: ·)
  | .inr _ :: _ => none
theorem intKeys_some : ∀ {ks : List Key} {ns : List Int}, intKeys ks = some ns → ks = ns.map Sum.inl
  | [], ns, e => by cases e; rfl
  | .inl i :: ks, ns, e => by
    obtain ⟨m, e1, rfl⟩ := Option.map_eq_some_iff.mp (show (intKeys ks).map (i :: ·) = some ns from e)
    rw [intKeys_some e1]; rfl
  | .inr _ :: _, ns, e => by cases e
/-- sorted of a dict by whole numbers, however many -/
def rSortDK : List V → Hp → VK → Prop := fun vs H Q => ∃ (a : Addr) (kvs : List (Key × V)) (ks : List Int), vs = [.ref a] ∧ Rd H a (.dK kvs) ∧ kvs.map (·.1) = ks.map Sum.inl ∧
  ∀ (ns : List Int) (p : Addr), ns.Perm ks → ns.Pairwise (· ≤ ·) → H p = none → Q (.ref p) (upd H p (.lst (ns.map V.int)))
theorem cr_sortDK (hc : X.calm = true) : CallR X (.builtin "sorted") rSortDK := by
  intro pins s σ H vs us Q I r ⟨a, kvs, ks, ev, ha, hk, q⟩
  subst ev
  rw [Vals.ref1 r]
  obtain ⟨z, lo, prs, rel, dd⟩ := dk_rd I.hok ha
  obtain ⟨ep, at_⟩ := dd.dictAt
  have keys : prs.map (·.1) = ks.map Sum.inl := rel.keys.symm.trans hk
  have len : prs.length = ks.length := by simpa using congrArg List.length keys
  have lz : ks.length ≤ sizeLine := by rw [← len, ← rel.length]; exact z
  refine Calls.call_function_entry kind_sorted plain_sorted entry_sorted (args_sorted1 _) (show wpAny _ _ (Builtin.«sorted» _) _ _ _ from ?_)
  unfold Builtin.«sorted»
  refine wpAny_bind (m := checkCount "sorted" 1 1 _) (wpAny_pure (wpAny_bind (PySem.W.kdu_collect (A := X.A.in1) (PySem.W.kdl_dict (knd := mixKind X.prog X.w) (kvs := prs) (ep := ep) lo) (I.ok.hd hc) at_ (by rw [len]; exact lz) fun h' tk acc old hacc => ?_)))
  have al : acc.toList.length = ks.length := by rw [Array.length_toList, hacc.1, len]
  have aI : IntsAre acc.toList ks := ints_each al fun j v e => by
    obtain ⟨k, x, e1, e2⟩ := hacc.2 j v (by rwa [Array.getElem?_toList] at e)
    have e3 := congrArg (fun l => l[j]?) keys
    simp only [List.getElem?_map, e1, Option.map_some] at e3
    obtain ⟨y, e4, e5⟩ := Option.map_eq_some_iff.mp e3.symm
    subst e5
    rcases keyIs_shape (show keyIs (Sum.inl y) v = true from e2) with ⟨i, t, ek, ev⟩ | ⟨i, t, ek, ev⟩ <;> cases ek
    exact ⟨_, t, e4, ev⟩
  have I1 : Inv X pins σ H { s with heap := h', toks := tk } := I.kept old
  refine wpAny_bind (wpAny_newList ?_ (by rw [al]; exact lz))
  have here : (h'.push (seqObj "list" acc.toList.toArray 0)).get? h'.objs.size = some (seqObj "list" acc.toList.toArray 0) := Heap.get?_push_size _ rfl
  show wpAny _ _ _ _ _ { s with heap := h'.push (seqObj "list" acc.toList.toArray 0), toks := tk }
  refine wpAny_bind (wpAny_holding (wpAny_call_entry slot_list_sort ⟨_, here, rfl⟩ entry_list_sort (SrtO.list_sort_ord (s := { s with heap := h'.push (seqObj "list" acc.toList.toArray 0), toks := tk }) SrtO.swo_int here (by rw [al]; exact lz) (fun two => SrtO.ints_sortable aI two) fun out o1 o2 => ⟨_, rfl, ?_⟩) (args_list_sort _)))
  obtain ⟨i1, i2, i3⟩ := SrtO.ints_out aI o1 o2
  obtain ⟨c, hc'⟩ := sortedHeap_at (vs := acc.toList) (out := out.toArray) here
  have oz : ((out.map SrtO.iv).map V.int).length ≤ sizeLine := by rw [List.length_map, i2.length_eq]; exact lz
  refine wpAny_pure ⟨_, rfl, .ref h'.objs.size, upd H h'.objs.size (.lst ((out.map SrtO.iv).map V.int)), I1.laid (t' := tk) (fun b u e => ?_) (Nat.le_refl _)
    (show ObjOk X.prog X.w _ _ _ (.lst ((out.map SrtO.iv).map V.int)) from ⟨oz, out, c, vals_of_ints i1, hc'⟩), rfl, q _ _ i2 i3 (I1.hok.fresh (Nat.le_refl _))⟩
  have lt := Heap.lt_size e
  rw [sortedHeap_old (Nat.ne_of_lt lt) (by rw [size_push']; exact Nat.lt_succ_of_lt lt)]
  exact Heap.get?_push_of_some _ e
/-- sorted of a tuple of ints -/
def rSortTI : List V → Hp → VK → Prop := fun vs H Q => ∃ (a : Addr) (ks : List Int), vs = [.ref a] ∧ H a = some (.tup (ks.map V.int)) ∧
  ∀ (ns : List Int) (p : Addr), ns.Perm ks → ns.Pairwise (· ≤ ·) → H p = none → Q (.ref p) (upd H p (.lst (ns.map V.int)))
theorem cr_sortTI : CallR X (.builtin "sorted") rSortTI := by
  intro pins s σ H vs us Q I r ⟨a, ks, ev, ha, q⟩
  subst ev
  rw [Vals.ref1 r]
  obtain ⟨z, its, rv, o0, ho0, hc0, n0, hd0⟩ := I.hok a _ ha
  have aI : IntsAre its ks := rv.ints
  have al : its.length = ks.length := by simpa using rv.length.symm
  have lz : ks.length ≤ sizeLine := by simpa using z
  refine Calls.call_function_entry kind_sorted plain_sorted entry_sorted (args_sorted1 _) (show wpAny _ _ (Builtin.«sorted» _) _ _ _ from ?_)
  unfold Builtin.«sorted»
  refine wpAny_bind (m := checkCount "sorted" 1 1 _) (wpAny_pure (wpAny_bind (wpAny_collect_seq (A := X.A.in1) a (.inr rfl) ho0 hc0 hd0 (fun h' old => ?_) (by rw [List.size_toArray, al]; exact lz))))
  have I1 : Inv X pins σ H { s with heap := h', toks := s.toks } := I.kept old
  refine wpAny_bind (wpAny_newList ?_ (by simpa [al] using lz))
  have here : (h'.push (seqObj "list" its.toArray 0)).get? h'.objs.size = some (seqObj "list" its.toArray 0) := Heap.get?_push_size _ rfl
  show wpAny _ _ _ _ _ { s with heap := h'.push (seqObj "list" its.toArray 0), toks := s.toks }
  refine wpAny_bind (wpAny_holding (wpAny_call_entry slot_list_sort ⟨_, here, rfl⟩ entry_list_sort (SrtO.list_sort_ord (s := { s with heap := h'.push (seqObj "list" its.toArray 0), toks := s.toks }) SrtO.swo_int here (by rw [al]; exact lz) (fun two => SrtO.ints_sortable aI two) fun out o1 o2 => ⟨_, rfl, ?_⟩) (args_list_sort _)))
  obtain ⟨i1, i2, i3⟩ := SrtO.ints_out aI o1 o2
  obtain ⟨c, hc'⟩ := sortedHeap_at (vs := its) (out := out.toArray) here
  have oz : ((out.map SrtO.iv).map V.int).length ≤ sizeLine := by rw [List.length_map, i2.length_eq]; exact lz
  refine wpAny_pure ⟨_, rfl, .ref h'.objs.size, upd H h'.objs.size (.lst ((out.map SrtO.iv).map V.int)), I1.laid (t' := s.toks) (fun b u e => ?_) (Nat.le_refl _)
    (show ObjOk X.prog X.w _ _ _ (.lst ((out.map SrtO.iv).map V.int)) from ⟨oz, out, c, vals_of_ints i1, hc'⟩), rfl, q _ _ i2 i3 (I1.hok.fresh (Nat.le_refl _))⟩
  have lt := Heap.lt_size e
  rw [sortedHeap_old (Nat.ne_of_lt lt) (by rw [size_push']; exact Nat.lt_succ_of_lt lt)]
  exact Heap.get?_push_of_some _ e
/-! ### pairs of ints in order -/
def ipD (p : Int × Int) : D := .tup [.int p.1, .int p.2]
def ipOf : D → Option (Int × Int)
  | .tup [.int a, .int b] => some (a, b)
  | _ => none
def ipsOf : List D → Option (List (Int × Int))
  | [] => some []
  | d :: ds => (ipOf d).bind fun p => (ipsOf ds).map (p :: ·)
theorem ipOf_some {d : D} {p : Int × Int} (e : ipOf d = some p) : d = ipD p := by
  unfold ipOf at e
  split at e <;> cases e
  rfl
theorem ipsOf_some : ∀ {ds : List D} {ps : List (Int × Int)}, ipsOf ds = some ps → ds = ps.map ipD
  | [], ps, e => by cases e; rfl
  | d :: ds, ps, e => by
    obtain ⟨p, e1, e2⟩ := Option.bind_eq_some_iff.mp (show (ipOf d).bind (fun p => (ipsOf ds).map (p :: ·)) = some ps from e)
    obtain ⟨m, e3, rfl⟩ := Option.map_eq_some_iff.mp e2
    rw [ipsOf_some e3, ipOf_some e1]; rfl
theorem ipsOf_map : ∀ ps : List (Int × Int), ipsOf (ps.map ipD) = some ps
  | [] => rfl
  | p :: ps => by rw [List.map_cons, ipsOf, ipsOf_map ps]; rfl
def insP (x : Int × Int) : List (Int × Int) → List (Int × Int)
  | [] => [x]
  | y :: ys => if SrtO.lexB y x = true then y :: insP x ys else x :: y :: ys
def sortP : List (Int × Int) → List (Int × Int)
  | [] => []
  | x :: xs => insP x (sortP xs)
theorem insP_perm (x : Int × Int) : ∀ ys, (insP x ys).Perm (x :: ys)
  | [] => .refl _
  | y :: ys => by
    rw [insP]
    split
    · exact ((insP_perm x ys).cons y).trans (.swap x y ys)
    · exact .refl _
theorem sortP_perm : ∀ xs, (sortP xs).Perm xs
  | [] => .refl _
  | x :: xs => (insP_perm x _).trans ((sortP_perm xs).cons x)
abbrev leP (x y : Int × Int) : Prop := x.1 < y.1 ∨ (x.1 = y.1 ∧ x.2 ≤ y.2)
theorem leP_iff {x y : Int × Int} : SrtO.lexB y x = false ↔ leP x y := by
  rw [SrtO.lexB_no]
  unfold leP
  omega
theorem insP_sorted (x : Int × Int) : ∀ ys : List (Int × Int), ys.Pairwise leP → (insP x ys).Pairwise leP
  | [], _ => by simp [insP]
  | y :: ys, h => by
    obtain ⟨h1, h2⟩ := List.pairwise_cons.mp h
    rw [insP]
    split
    · rename_i hxy
      have hxy := SrtO.lexB_iff.mp hxy
      refine List.pairwise_cons.mpr ⟨fun z hz => ?_, insP_sorted x ys h2⟩
      rcases List.mem_cons.mp ((insP_perm x ys).mem_iff.mp hz) with e | e
      · subst e; unfold leP; omega
      · exact h1 z e
    · rename_i hxy
      have hxy : leP x y := leP_iff.mp (by simpa using hxy)
      refine List.pairwise_cons.mpr ⟨fun z hz => ?_, h⟩
      rcases List.mem_cons.mp hz with e | e
      · subst e; exact hxy
      · have := h1 z e
        unfold leP at *; omega
theorem sortP_sorted : ∀ xs, (sortP xs).Pairwise leP
  | [] => .nil
  | x :: xs => insP_sorted x _ (sortP_sorted xs)
theorem pairs_same : ∀ {a b : List (Int × Int)}, a.Pairwise leP → b.Pairwise leP → a.Perm b → a = b
  | [], b, _, _, h => h.nil_eq
  | x :: a, [], _, _, h => absurd h.symm.nil_eq (by simp)
  | x :: a, y :: b, ha, hb, h => by
    obtain ⟨a1, a2⟩ := List.pairwise_cons.mp ha
    obtain ⟨b1, b2⟩ := List.pairwise_cons.mp hb
    have e : x = y := by
      rcases List.mem_cons.mp (h.mem_iff.mp (List.mem_cons_self (a := x) (l := a))) with e | e
      · exact e
      · rcases List.mem_cons.mp (h.mem_iff.mpr (List.mem_cons_self (a := y) (l := b))) with e2 | e2
        · exact e2.symm
        · have h1 := b1 x e
          have h2 := a1 y e2
          unfold leP at h1 h2
          exact Prod.ext (by omega) (by omega)
    subst e
    rw [pairs_same a2 b2 h.cons_inv]
theorem sortP_eq {xs ys : List (Int × Int)} (h : ys.Perm xs) (s : ys.Pairwise leP) : ys = sortP xs := pairs_same s (sortP_sorted xs) (h.trans (sortP_perm xs).symm)
/-- the pair that a value stands for -/
def hPr (H : Hp) : V → Int × Int
  | .ref t => match H t with
    | some (.tup [.int a, .int b]) => (a, b)
    | _ => (0, 0)
  | _ => (0, 0)
theorem prs_rp {S : Gs} {H Hs : Hp} (hs : ∀ b o, Hs b = some o → H b = some o) : ∀ {ps : List (Int × Int)} {vs : List V} {G : List Addr}, RpL S H Hs (ps.map ipD) vs G →
    G = [] ∧ vs.map (hPr H) = ps ∧ ∀ v ∈ vs, ∃ t, v = V.ref t ∧ Hs t = some (.tup [.int (hPr H v).1, .int (hPr H v).2])
  | [], _, _, r => by cases r; simp
  | p :: ps, _, _, r => by
    cases r with
    | cons h r =>
      obtain ⟨g, e, k⟩ := prs_rp hs r
      subst g
      unfold ipD at h
      cases h with
      | tup ha rr =>
        cases rr with
        | cons h1 rr =>
          cases rr with
          | cons h2 rr =>
            cases rr
            cases h1
            cases h2
            rename_i a
            have ek : hPr H (V.ref a) = p := by unfold hPr; simp [hs _ _ ha]
            refine ⟨rfl, by rw [List.map_cons, e, ek], fun v hv => ?_⟩
            rcases List.mem_cons.mp hv with e | hv
            · subst e
              exact ⟨a, rfl, by rw [ek]; exact ha⟩
            · exact k v hv
theorem rp_prs {S : Gs} {H Hs H' Hs' : Hp} (k : ∀ b o, Hs b = some o → Hs' b = some o) : ∀ {vs : List V}, (∀ v ∈ vs, ∃ t, v = V.ref t ∧ Hs t = some (.tup [.int (hPr H v).1, .int (hPr H v).2])) →
    RpL S H' Hs' ((vs.map (hPr H)).map ipD) vs []
  | [], _ => .nil
  | v :: vs, h => by
    obtain ⟨t, e, ht⟩ := h v List.mem_cons_self
    refine .cons0 ?_ (rp_prs k fun w hw => h w (List.mem_cons_of_mem _ hw))
    have : Rp S H' Hs' (ipD (hPr H v)) (V.ref t) [] := .tup (k _ _ ht) (.cons0 (.int _) (.cons0 (.int _) .nil))
    rwa [← e] at this
def opSort : List D → Option D
  | [.lst _ xs] => match intsOf xs with
    | some ns => some (.lst true ((sortI ns).map .int))
    | none => (ipsOf xs).map fun ps => .lst true ((sortP ps).map ipD)
  | [.tup xs] => (intsOf xs).map fun ns => .lst true ((sortI ns).map .int)
  | [.dk _ ks xs] => if ks.length ≤ sizeLine then (intKeys ks).map fun ns => .lst true ((sortI ns).map .int) else none
  | _ => none
def rSortA (K : PySem.W.Frag) : List V → Hp → VK → Prop := fun vs H Q => rSortedI K vs H Q ∨ rSortDK vs H Q ∨ rSortTI vs H Q ∨ rSortedPO K vs H Q
theorem cr_sortA (hc : X.calm = true) : CallR X (.builtin "sorted") (rSortA X.K) := cr_sortedI.or ((cr_sortDK hc).or (cr_sortTI.or cr_sortedPO))
theorem opSort_S {K : PySem.W.Frag} : OpS B (rSortA K) opSort := by
  intro T ts ρ σ H F ps ds vs Q d h o e q
  unfold opSort at e
  split at e
  · obtain ⟨v1, G1, rfl, r1⟩ := o.one h
    obtain ⟨a, vs, G', rfl, ha, ra⟩ := seqR_lst r1
    split at e
    · rename_i ns e1
      cases e
      have ev := intsOf_rp ra e1
      subst ev
      refine .inl ⟨a, ns, rfl, SqL.of ha, fun ns' p pm so hp => ?_⟩
      have en := sortI_eq pm so
      subst en
      refine q _ _ _ (h.drop.newL (ints_rpl _) hp ?_)
      rw [List.length_map, (sortI_perm ns).length_eq]
      have := h.hl _ _ (.inl ha)
      rwa [List.length_map] at this
    · obtain ⟨pr, e1, e2⟩ := Option.map_eq_some_iff.mp e
      subst e2
      have ex := ipsOf_some e1
      subst ex
      obtain ⟨g, ek, k⟩ := prs_rp hid_sub ra
      refine .inr (.inr (.inr ⟨a, vs, hPr H, rfl, SqL.of ha, fun v hv => ?_, fun ys p so st hp => ?_⟩))
      · obtain ⟨t, et, ht⟩ := k v hv
        exact ⟨t, et, hid_sub _ _ ht⟩
      · have en : ys.map (hPr H) = sortP pr := sortP_eq (by rw [← ek]; exact st.perm.map _) (List.pairwise_map.mpr (so.imp fun h => leP_iff.mp h))
        have z : R B (T ++ [(D.lst true ((ys.map (hPr H)).map ipD), .ref p)]) ρ σ (upd H p (.lst ys)) (p :: F) := h.drop.newL (rp_prs (fun _ _ e => e) fun v hv => k v (st.perm.mem_iff.mp hv)) hp (by
          rw [st.perm.length_eq]
          exact h.hl _ _ (.inl ha))
        rw [en] at z
        exact q _ _ _ z
  · obtain ⟨v1, G1, rfl, r1⟩ := o.one h
    obtain ⟨ns, e1, e2⟩ := Option.map_eq_some_iff.mp e
    subst e2
    obtain ⟨a, vs, G', rfl, ha, ra⟩ := seqR_tup r1
    have ev := intsOf_rp ra e1
    subst ev
    refine .inr (.inr (.inl ⟨a, ns, rfl, ha, fun ns' p pm so hp => ?_⟩))
    have en := sortI_eq pm so
    subst en
    refine q _ _ _ (h.drop.newL (ints_rpl _) hp ?_)
    rw [List.length_map, (sortI_perm ns).length_eq]
    have := h.hl _ _ (.inr ha)
    rwa [List.length_map] at this
  · split at e
    · rename_i lz
      obtain ⟨ns, e1, e2⟩ := Option.map_eq_some_iff.mp e
      subst e2
      obtain ⟨v1, G1, rfl, r1⟩ := o.one h
      obtain ⟨a, kvs, G', rfl, ha, ek, rl, _⟩ := dk_rp hid_sub r1.1
      have e3 := intKeys_some e1
      refine .inr (.inl ⟨a, kvs, ns, rfl, ha, by rw [← ek, e3], fun ns' p pm so hp => ?_⟩)
      have en := sortI_eq pm so
      subst en
      refine q _ _ _ (h.drop.newL (ints_rpl _) hp ?_)
      rw [List.length_map, (sortI_perm ns).length_eq]
      rwa [e3, List.length_map] at lz
    · cases e
  · cases e
end
/-! ### sorted of a set of ints, however many -/
section
variable {P : Program} {w : World} {A : Around} {E : Value → Shared → Prop} {s : Shared}
theorem sortedSet_any {a : Addr} {S : Int → Bool} {n : Nat} {Q : Value → Shared → Prop} (R : SetR w s.heap a S n) (hh : A.handled = none)
    (k : ∀ (t : Shared) (p : Addr) (out : Array Value) (c : Nat) (ns : List Int), (∀ b o, s.heap.get? b = some o → t.heap.get? b = some o) → t.gens = s.gens → t.os = s.os → s.heap.objs.size ≤ p → t.heap.get? p = some (seqObj "list" out c) → IntsAre out.toList ns → ns.Pairwise (· < ·) → (∀ z, z ∈ ns ↔ S z = true) → ns.length = n → Q (.ref p) t) :
    wpAny (model P w) A (call (.builtin "sorted") [.ref a]) Q E s := by
  obtain ⟨ob, es, ep, tb, h1, h2, h3, good, dup, mem, few, fit, cnt, ris, led⟩ := R
  refine Calls.call_function_entry kind_sorted plain_sorted entry_sorted (args_sorted1 _) (show wpAny _ _ (Builtin.«sorted» _) _ _ _ from ?_)
  unfold Builtin.«sorted»
  refine wpAny_bind (m := checkCount "sorted" 1 1 _) (wpAny_pure (wpAny_bind (collect_set (A := A.in1) hh ⟨ob, h1, h2.1, h3⟩ fit few ris led fun s1 us old1 sz1 gen1 os1 perm => ?_)))
  have ul : us.length = n := by rw [perm.length_eq, List.length_map, Array.length_toList]; exact cnt
  have uI : IntsAre us (us.map Builtin.Re.reRawOf) := ints_of us fun u hu => by
    obtain ⟨e, he, q⟩ := List.mem_map.mp (perm.mem_iff.mp hu)
    obtain ⟨z, tk, eq, _⟩ := good e he
    exact ⟨z, tk, q ▸ eq⟩
  have pk : (us.map Builtin.Re.reRawOf).Perm (es.toList.map keyOf) := by
    have := perm.map Builtin.Re.reRawOf
    rwa [List.map_map] at this
  have uz : us.length ≤ sizeLine := by
    rw [ul, ← cnt, sizeLine_eq]
    unfold scanBound at few
    omega
  refine wpAny_bind (wpAny_newList ?_ uz)
  have here : (s1.heap.push (seqObj "list" us.toArray 0)).get? s1.heap.objs.size = some (seqObj "list" us.toArray 0) := Heap.get?_push_size _ rfl
  refine wpAny_bind (wpAny_holding (wpAny_call_entry slot_list_sort ⟨_, here, rfl⟩ entry_list_sort (SrtO.list_sort_ord SrtO.swo_int here uz (fun two => SrtO.ints_sortable uI two) fun out o1 o2 => ⟨_, rfl, ?_⟩) (args_list_sort _)))
  obtain ⟨i1, i2, i3⟩ := SrtO.ints_out uI o1 o2
  obtain ⟨c, hc⟩ := sortedHeap_at (vs := us) (out := out.toArray) here
  have pn := i2.trans pk
  refine wpAny_pure ⟨_, rfl, k _ s1.heap.objs.size out.toArray c (out.map SrtO.iv) (fun b u e => ?_) gen1 os1 sz1 hc (by simpa using i1) (lt_of_le_nodup _ i3 (pn.nodup_iff.mpr dup)) (fun z => by rw [pn.mem_iff, ← mem z]) (by rw [pn.length_eq, List.length_map, Array.length_toList]; exact cnt)⟩
  have old := old1 b u e
  have lt := Heap.lt_size old
  show (sortedHeap (s1.heap.push (seqObj "list" us.toArray 0)) s1.heap.objs.size us out.toArray).get? b = some u
  rw [sortedHeap_old (Nat.ne_of_lt lt) (by rw [size_push']; exact Nat.lt_succ_of_lt lt)]
  exact Heap.get?_push_of_some _ old
end
/-- sorted of a set of ints -/
def rSSetI (w : World) : List V → Hp → VK → Prop := fun vs H Q => ∃ (a : Addr) (S : Int → Bool) (n : Nat), vs = [V.ref a] ∧ H a = some (SetO w a S n) ∧ n ≤ sizeLine ∧
  ∀ (ns : List Int) (p : Addr), ns.Pairwise (· < ·) → (∀ z : Int, z ∈ ns ↔ S z = true) → ns.length = n → H p = none → Q (.ref p) (upd H p (.lst (ns.map V.int)))
theorem cr_sSetI {X : Cx} (hc : X.calm = true) : CallR X (.builtin "sorted") (rSSetI X.w) := by
  intro pins s σ H vs us Q I r ⟨a, S, n, ev, ha, hz, q⟩
  subst ev
  rw [Vals.ref1 r]
  refine sortedSet_any (setO_get I ha) (I.ok.hd hc) fun t p out c ns old g o hp at_ hi so mem len => ?_
  have lz : (ns.map V.int).length ≤ sizeLine := by rw [List.length_map, len]; exact hz
  have fresh : H p = none := I.hok.fresh hp
  have J : Inv X pins σ (upd H p (.lst (ns.map V.int))) { s with heap := t.heap, gens := t.gens, drawn := t.drawn, toks := t.toks } :=
    I.call (ch := []) (Un.laid old hp fresh) (I.hok.laid old hp ⟨lz, out.toList, c, vals_of_ints hi, at_⟩) (by rw [g]; exact I.bare) (fun _ z => nomatch z)
  have et : t = { s with heap := t.heap, gens := t.gens, drawn := t.drawn, toks := t.toks } := by
    obtain ⟨_, _, _, _, _⟩ := t
    cases o
    rfl
  rw [et]
  exact ⟨.ref p, _, J, rfl, q ns p so mem len fresh⟩
section
variable {X : Cx} {B : Bs} {T ts : Tm} {ρ : En} {σ : L2.St} {H : Hp} {F : List Addr} {ps : List Opd} {ds : List D} {vs : List V} {Q : VK} {d d1 d2 d3 : D} {e a b tg o : Expr} {f fe fk : En → Out D} {pos p p2 pos' pos2 : Pos} {pa pb pc : Opd}
/-- sorted(set(xs)) -/
def opSSet : List D → Option D
  | [.tup xs] => (intsOf xs).bind fun ns => if ns.length < 4000 then some (.lst true ((sortU ns).map .int)) else none
  | [.lst _ xs] => (intsOf xs).bind fun ns => if ns.length < 4000 then some (.lst true ((sortU ns).map .int)) else none
  | _ => none
theorem ev_sset (hc : X.calm = true) (hg : Gl X "sorted") (hm : X.mg "sorted" = none) (hg2 : Gl X "set") (hm2 : X.mg "set" = none) (ha : PE X a (tOpd B pa)) (h1 : starEach [a] X.env = (false, eval a X.env) :: starEach [] X.env := by rfl)
    (h2 : starEach [.Call (.Name "set" p2) [a] [] pos2] X.env = (false, eval (.Call (.Name "set" p2) [a] [] pos2) X.env) :: starEach [] X.env := by rfl) : PE X (.Call (.Name "sorted" p) [.Call (.Name "set" p2) [a] [] pos2] [] pos) (cE B (evOp [pa] opSSet)) :=
  (pe_callB (cr_sSetI hc) hg hm boot_sorted (pa_cons (pe_callTy (call_setA hc) hg2 hm2 boot_set (pa_cons ha pa_nil h1) (by decide) (by decide) h1 rfl) pa_nil h2) (by decide) (by decide) h2 rfl).imp fun σ H Q h =>
    op_run (ps := [pa]) (r := fun vs H Q => rSetAny X.K X.w vs H fun x H2 => rSSetI X.w [x] H2 Q) (by
      intro T ts ρ σ H F ps ds vs Q d h o e q
      unfold opSSet at e
      split at e
      · obtain ⟨v1, G1, rfl, r1⟩ := o.one h
        obtain ⟨ns, e1, e2⟩ := Option.bind_eq_some_iff.mp e
        split at e2
        · rename_i h64
          cases e2
          obtain ⟨a, vs, G', rfl, ha, ra⟩ := seqR_tup r1
          have ev := intsOf_rp ra e1
          subst ev
          refine .inr ⟨a, ns, rfl, ha, h64, fun p c hp hc => ⟨p, _, c, rfl, upd_same, by rw [sizeLine_eq]; omega, fun ns' p' so mem hl hp' => ?_⟩⟩
          have en : ns' = sortU ns := sortU_eq so fun z => by rw [mem]; simp
          subst en
          have g := h.drop.grow (H' := upd H p (SetO X.w p (fun j => decide (j ∈ ns)) c)) (same_upd hp) (h.hl.upd (by intro ws e; rcases e with e | e <;> cases e))
          refine q _ _ _ (g.newL (ints_rpl _) hp' ?_)
          rw [List.length_map, hl, sizeLine_eq]
          omega
        · cases e2
      · obtain ⟨v1, G1, rfl, r1⟩ := o.one h
        obtain ⟨ns, e1, e2⟩ := Option.bind_eq_some_iff.mp e
        split at e2
        · rename_i h64
          cases e2
          obtain ⟨a, vs, G', rfl, ha, ra⟩ := seqR_lst r1
          have ev := intsOf_rp ra e1
          subst ev
          refine .inl ⟨a, ns, rfl, SqL.of ha, h64, fun p c hp hc => ⟨p, _, c, rfl, upd_same, by rw [sizeLine_eq]; omega, fun ns' p' so mem hl hp' => ?_⟩⟩
          have en : ns' = sortU ns := sortU_eq so fun z => by rw [mem]; simp
          subst en
          have g := h.drop.grow (H' := upd H p (SetO X.w p (fun j => decide (j ∈ ns)) c)) (same_upd hp) (h.hl.upd (by intro ws e; rcases e with e | e <;> cases e))
          refine q _ _ _ (g.newL (ints_rpl _) hp' ?_)
          rw [List.length_map, hl, sizeLine_eq]
          omega
        · cases e2
      · cases e) h
/-! ### items of lists, tuples, texts, dicts -/
def rIxA (K : PySem.W.Frag) : R2 := fun x y H Q => rIx K x y H Q ∨ ∃ a v, x = .ref a ∧ DGet H a y (some v) ∧ Q v H
theorem ix_any (hu : X.A.units + 1 < cLine) : IxR X (rIxA X.K) := ix_seq.or (by
  intro value slice pins s σ H x y v u Q I rx ry ⟨a, w, ex, g, q⟩ hp
  subst ex
  cases rx
  have tD := dict_typeIs I g
  have item : wpAny (model X.prog X.w) X.A (getItem (.ref a) u) (EP X pins σ Q) X.xe s := d_getItem hu I g ry fun w' s' I' r' => ⟨w, H, I', r', q⟩
  have tail : wpAny (model X.prog X.w) X.A (subscripted slice false (.ref a) u) (fun r s1 => wpAny (model X.prog X.w) X.A (letTemporaryGo value (.ref a) r >>= fun _ => pure r) (EP X pins σ Q) X.xe s1) X.xe s := by
    rw [hp]
    exact wpAny_operating (thn item fun r s1 z => wpAny_bind (wpAny_letTemporaryGo (wpAny_pure z)))
  unfold subscriptTail
  refine wpAny_bind ?_
  rw [getitemInPython_of_ne tD.not_modules]
  refine wpAny_bind (wpAny_specialOf tD PySem.F.slot_dict_getitem.lookup ?_)
  first | exact wpAny_pure (wpAny_bind tail) | exact wpAny_bind (wpAny_pure (wpAny_bind tail)) | exact wpAny_bind tail)
def opIxA : List D → Option D
  | [.dk o ks xs, k] => match keyD k with
    | some q => match getD ks xs q with
      | some d => if shr d = true then some d else none
      | none => none
    | none => none
  | ds => opIx ds
theorem opIxA_S {K : PySem.W.Frag} : OpS B (rr2 (rIxA K)) opIxA := by
  intro T ts ρ σ H F ps ds vs Q d h o e q
  unfold opIxA at e
  split at e
  · split at e
    · rename_i q0 ek
      split at e
      · rename_i d' ed
        split at e
        · rename_i hsd
          cases e
          obtain ⟨v1, v2, G1, G2, rfl, r1, r2⟩ := o.two h
          obtain ⟨a, kvs, G', rfl, ha, rfl, rl, _⟩ := dk_rp hid_sub r1.1
          have g := getD_rp (q := q0) rl
          rw [ed] at g
          obtain ⟨v, G'', h1, h2, _⟩ := g
          have := h2.shr hsd
          subst this
          refine .inr ⟨a, v, rfl, ?_, q _ _ _ (h.drop.push h2)⟩
          rw [keyD_rp r2.1 ek, ← h1]
          exact .inl ⟨_, _, ha, rfl, rfl⟩
        · cases e
      · cases e
    · cases e
  · have z : rr2 (rIx K) vs H Q := opIx_S (K := K) (B := B) h o e q
    unfold rr2 at z ⊢
    split at z
    · exact .inl z
    · exact z.elim
end
end Fw

/- part FwB -/
namespace Fw
open PySem PySem.Spec PyProof.Rows L2
section
variable {X : Cx} {B : Bs} {T ts : Tm} {ρ : En} {σ : L2.St} {H : Hp} {F : List Addr} {ps : List Opd} {ds : List D} {vs : List V} {Q : VK} {d d1 d2 d3 : D} {e a b tg o : Expr} {f fe fk : En → Out D} {pos p p2 pos' pos2 : Pos} {pa pb pc : Opd}
/-! ### x[k] = e -/
theorem PSet.or {t t' : TSet} (h : PSet X t) (h' : PSet X t') : PSet X (fun o i v H Q => t o i v H Q ∨ t' o i v H Q) := by
  intro pins s σ H o i v ov iv u Q I r1 r2 r3 q
  rcases q with q | q
  · exact h pins s σ H o i v ov iv u Q I r1 r2 r3 q
  · exact h' pins s σ H o i v ov iv u Q I r1 r2 r3 q
def rSetDc : TSet := fun o i v H Q => ∃ a H4, o = .ref a ∧ DPut H a i v H4 ∧ Q H4
theorem set_dct (hu : X.A.units + 1 < cLine) : PSet X rSetDc := by
  intro pins s σ H o i v ov iv u Q I r1 r2 r3 ⟨a, H4, e, g, q⟩
  subst e
  cases r1
  exact d_setItem hu I g r2 r3 fun s' I' => ⟨H4, I', q⟩
def rSetA : TSet := fun o i v H Q => L2.rSetL o i v H Q ∨ rSetDc o i v H Q
theorem set_any (hu : X.A.units + 1 < cLine) : PSet X rSetA := PSet.or set_list (set_dct hu)
def hasK (ks : List Key) (k : Key) : Bool := ks.any fun q => decide (q = k)
def putKs (ks : List Key) (k : Key) : List Key := if hasK ks k = true then ks else ks ++ [k]
def putXs : List Key → List D → Key → D → List D
  | q :: ks, x :: xs, k, d => if q = k then d :: xs else x :: putXs ks xs k d
  | _, _, _, d => [d]
def sSet (i : Nat) (fk fe : En → Out D) : En → Out Fl := fun ρ => (fe ρ).bind fun d ρ1 => match ρ1.vs[i]? with
  | some (.ow _) => (fk ρ1).bind fun k ρ2 => match ρ2.vs[i]? with
    | some (.ow (.lst true ds)) => match k with
      | .int j => match ixN ds.length j with
        | some m => .ok .nx { ρ2 with vs := ρ2.vs.set i (.ow (.lst true (ds.set m d))) }
        | none => .no
      | _ => .no
    | some (.ow (.dk true ks ds)) => match keyD k with
      | some q => if ds.length < sizeLine ∧ ks.Nodup then .ok .nx { ρ2 with vs := ρ2.vs.set i (.ow (.dk true (putKs ks q) (putXs ks ds q d))) } else .no
      | none => .no
    | _ => .no
  | _ => .no
theorem put_keys {kvs : List (Key × V)} {q : Key} {v : V} : (putK kvs q v).map (·.1) = putKs (kvs.map (·.1)) q := by
  unfold putK putKs
  have e : (kvs.any fun kv => decide (kv.1 = q)) = hasK (kvs.map (·.1)) q := by
    unfold hasK
    rw [List.any_map]; rfl
  rw [e]
  by_cases h : hasK (kvs.map (·.1)) q = true
  · rw [if_pos h, if_pos h, List.map_map]
    apply List.map_congr_left
    intro x _
    simp only [Function.comp]
    split <;> rfl
  · rw [if_neg h, if_neg h, List.map_append]; rfl
theorem put_rp {S : Gs} {Hs : Hp} {q : Key} {v : V} {G2 : List Addr} (hv : Rp S H Hs d v G2) (n2 : G2.Nodup) : ∀ {kvs : List (Key × V)} {ds : List D} {G : List Addr}, (kvs.map (·.1)).Nodup → RpL S H Hs ds (kvs.map (·.2)) G → G.Nodup → (∀ x, x ∈ G → x ∉ G2) →
    ∃ G', RpL S H Hs (putXs (kvs.map (·.1)) ds q d) ((putK kvs q v).map (·.2)) G' ∧ (∀ x ∈ G', x ∈ G ∨ x ∈ G2) ∧ G'.Nodup
  | [], ds, G, _, r, n1, dj => by
    cases r
    exact ⟨G2 ++ [], .cons hv .nil, fun x hx => .inr (by simpa using hx), by simpa using n2⟩
  | (k, w) :: kvs, ds, G, nk, r, n1, dj => by
    generalize hvs : ((k, w) :: kvs).map (·.2) = vs at r
    cases r with
    | nil => cases hvs
    | @cons d0 v0 ds vs F1 G1 h r =>
      rw [List.map_cons] at hvs
      injection hvs with e1 e2
      subst e1; subst e2
      obtain ⟨m1, m2, m3⟩ := List.nodup_append.mp n1
      rw [List.map_cons] at nk ⊢
      obtain ⟨nk1, nk2⟩ := List.nodup_cons.mp nk
      rw [putXs]
      by_cases hk : k = q
      · rw [if_pos hk]
        have e : putK ((k, w) :: kvs) q v = (k, v) :: kvs := by
          unfold putK
          rw [List.any_cons, decide_eq_true hk, Bool.true_or, if_pos rfl, List.map_cons]
          dsimp only
          rw [if_pos hk]
          congr 1
          conv => rhs; rw [← List.map_id kvs]
          apply List.map_congr_left
          intro x hx
          rw [if_neg]
          · rfl
          · intro z
            exact nk1 (List.mem_map.mpr ⟨x, hx, by rw [z, hk]⟩)
        rw [e]
        exact ⟨G2 ++ G1, .cons hv r, fun x hx => (List.mem_append.mp hx).elim .inr fun z => .inl (List.mem_append_right _ z), List.nodup_append.mpr ⟨n2, m2, fun x hx y hy z => dj y (List.mem_append_right _ hy) (z ▸ hx)⟩⟩
      · rw [if_neg hk]
        obtain ⟨G', r', sub, nd'⟩ := put_rp (q := q) hv n2 nk2 r m2 fun x hx => dj x (List.mem_append_right _ hx)
        have e : putK ((k, w) :: kvs) q v = (k, w) :: putK kvs q v := by
          unfold putK
          rw [List.any_cons, decide_eq_false hk, Bool.false_or]
          split
          · rw [List.map_cons]; dsimp only; rw [if_neg hk]
          · rfl
        rw [e]
        refine ⟨F1 ++ G', .cons h r', fun x hx => ?_, List.nodup_append.mpr ⟨m1, nd', fun x hx y hy z => ?_⟩⟩
        · rcases List.mem_append.mp hx with z | z
          · exact .inl (List.mem_append_left _ z)
          · exact (sub x z).imp (fun z => List.mem_append_right _ z) id
        · subst z
          rcases sub x hy with z | z
          · exact m3 x hx x z rfl
          · exact dj x (List.mem_append_left _ hx) z
theorem es_seti {i : Nat} (h : PS X (.Assign [.Subscript o a p] e pos) (tAsg (cE B fe) (gSub (tVar i) (cE B fk) rSetA))) : PS X (.Assign [.Subscript o a p] e pos) (cS B (sSet i fk fe)) := h.imp fun D' σ H ⟨T, ρ, F, r, q⟩ => by
  refine ⟨T, ρ, F, r, Out.wp_mono (Out.wp_bind q) (fun d ρ1 q v H1 F1 r1 => ?_) fun _ _ z => exS z⟩
  split at q
  · rename_i d0 e0
    obtain ⟨w, ew⟩ := r1.there e0 rfl
    refine ⟨w, ew, _, ρ1, F1, r1, Out.wp_mono (Out.wp_bind q) (fun k ρ2 q kv H2 F2 r2 => ?_) fun x ρ2 z cls dd H F xr r => z cls dd σ H F xr r.drop⟩
    obtain ⟨G, rk, _⟩ := top_rp r2
    have r3 := r2.drop1
    split at q
    · rename_i ds e1
      split at q
      · rename_i j
        split at q
        · rename_i m em
          cases rk
          obtain ⟨a, vs0, ea, ha⟩ := own_lst r3 e1
          rw [ew] at ea; cases ea
          obtain ⟨vs, ha2, hl, step⟩ := r3.mutL (ts := [(d, v)]) e1 ew
          rw [ha] at ha2; cases ha2
          refine .inl ⟨a, vs0, _, m, rfl, rfl, ha, by rw [hl]; exact em, q σ _ F2 (R.mutL' r3 e1 ew ha (by rw [List.length_set]; exact r3.hl _ _ (.inl ha)) fun {Hs F G} hs x1 x2 n1 n2 dj => RpL.set x2 n2 m x1 n1 dj)⟩
        · exact q.elim
      · exact q.elim
    · rename_i ks ds e1
      split at q
      · rename_i q0 ek
        split at q
        · rename_i hz
          obtain ⟨fp, pt⟩ := r3.pt
          obtain ⟨v', ev', rr⟩ := (show RpV _ _ _ (.ow (.dk true ks ds)) _ _ from pt.sl i _ e1)
          rw [ew] at ev'; cases ev'
          obtain ⟨a, kvs0, G0, rfl, ha, ekk, _, _⟩ := dk_own rr
          obtain ⟨kvs, ha2, hks, hl, step⟩ := r3.mutD (ts := [(d, v)]) e1 ew
          rw [ha] at ha2; cases ha2
          have st := step (putXs ks ds q0 d) (putK kvs0 q0 v) (fun {Hs F G} hs x1 x2 n1 n2 dj => by
            rw [← hks]
            exact put_rp (one_rpl x2) n2 (by rw [hks]; exact hz.2) x1 n1 dj)
          rw [put_keys, hks] at st
          exact .inr ⟨a, _, rfl, .inl ⟨kvs0, q0, ha, keyD_rp rk ek, by rw [← hl]; exact hz.1, rfl⟩, q σ _ F2 st⟩
        · exact q.elim
      · exact q.elim
    · exact q.elim
  · exact q.elim
/-! ### {} -/
def evNewK : En → Out D := fun ρ => .ok (.dk true [] []) ρ
theorem ev_newK : PE X (.Dict [] [] pos) (cE B evNewK) := pe_dnewK.imp fun σ H Q ⟨T, ρ, F, r, q⟩ => fun p hp => by
  have := R.make (ts := []) (keep := true) (o := .dK []) (d := .dk true [] []) (p := p) (by rw [List.append_nil]; exact r) hp (by intro vs e; rcases e with e | e <;> cases e) (fun {H' Hs' G} e1 _ rl => by
    cases rl
    rw [if_pos rfl]
    exact Rp.dkO (kvs := []) e1 .nil)
  exact q _ _ _ this
/-! ### methods without arguments -/
def Mo0 (r : V → List V → Hp → VK → Prop) (mo : List D → Option (List D)) : Prop := ∀ {H : Hp} {a : Addr} {ds ds' : List D} {vs : List V} {Q : VK},
  H a = some (.lst vs) → ds.length = vs.length → mo ds = some ds' → ∃ vs', (Q .non (upd H a (.lst vs')) → r (.ref a) [] H Q) ∧ vs'.length ≤ vs.length ∧
    ∀ {S : Gs} {Hs : Hp} {F : List Addr}, RpL S H Hs ds vs F → F.Nodup → ∃ F', RpL S H Hs ds' vs' F' ∧ (∀ x ∈ F', x ∈ F) ∧ F'.Nodup
def sMe0 (mo : List D → Option (List D)) (i : Nat) : En → Out Fl := fun ρ => match ρ.vs[i]? with
  | some (.ow (.lst true ds)) => match mo ds with
    | some ds' => .ok .nx { ρ with vs := ρ.vs.set i (.ow (.lst true ds')) }
    | none => .no
  | _ => .no
theorem es_me0 {i : Nat} {r : V → List V → Hp → VK → Prop} {mo : List D → Option (List D)} (hr : Mo0 r mo) (h : PS X (.Expr e pos) (tDrop (tBM0 X.K "list" r (tVar i)))) : PS X (.Expr e pos) (cS B (sMe0 mo i)) := h.imp fun D' σ H ⟨T, ρ, F, rr, q⟩ => by
  unfold sMe0 at q
  split at q
  · rename_i ds e0
    split at q
    · rename_i ds' e2
      obtain ⟨a, vs0, ev, ha⟩ := own_lst rr e0
      obtain ⟨vs, ha2, hl, step⟩ := R.mutL (ts := []) (T := T) (by rw [List.append_nil]; exact rr) e0 ev
      rw [ha] at ha2; cases ha2
      obtain ⟨vs', h1, h2, h3⟩ := hr (Q := fun _ H1 => D'.nx σ H1) ha hl.symm e2
      refine ⟨_, ev, tyv_lst ha, h1 (q σ _ F (step ds' vs' (fun {Hs F G} hs x1 x2 n1 n2 dj => ?_) (Nat.le_trans h2 (rr.hl _ _ (.inl ha)))))⟩
      obtain ⟨F', y1, y2, y3⟩ := h3 x1 n1
      exact ⟨F', y1, fun x hx => .inl (y2 x hx), y3⟩
    · exact q.elim
  · exact q.elim
def moClear (_ : List D) : Option (List D) := some []
theorem moClear_S : Mo0 rClear moClear := fun {H a ds ds' vs Q} ha hl e => by
  cases e
  exact ⟨[], fun q => ⟨a, vs, rfl, rfl, ha, q⟩, Nat.zero_le _, fun r n => ⟨[], .nil, (fun _ z => nomatch z), List.nodup_nil⟩⟩
def moRev (ds : List D) : Option (List D) := some ds.reverse
theorem RpL.rev {S : Gs} {Hs : Hp} : ∀ {ds : List D} {vs : List V} {G : List Addr}, RpL S H Hs ds vs G → G.Nodup → ∃ G', RpL S H Hs ds.reverse vs.reverse G' ∧ (∀ x, x ∈ G' ↔ x ∈ G) ∧ G'.Nodup
  | _, _, _, .nil, n => ⟨[], .nil, fun _ => Iff.rfl, n⟩
  | _, _, _, .cons (F := F1) (G := F2) h r, n => by
    obtain ⟨m1, m2, m3⟩ := List.nodup_append.mp n
    obtain ⟨G', r', mem, nd⟩ := RpL.rev r m2
    rw [List.reverse_cons, List.reverse_cons]
    refine ⟨G' ++ (F1 ++ []), r'.append (.cons h .nil), fun x => ?_, ?_⟩
    · simp only [List.append_nil, List.mem_append, mem]; exact Or.comm
    · rw [List.append_nil]
      exact List.nodup_append.mpr ⟨nd, m1, fun x hx y hy z => m3 y hy x ((mem x).mp hx) z.symm⟩
theorem moRev_S : Mo0 rReverse moRev := fun {H a ds ds' vs Q} ha hl e => by
  cases e
  refine ⟨vs.reverse, fun q => ⟨a, vs, rfl, rfl, ha, q⟩, by simp, fun r n => ?_⟩
  obtain ⟨G', y1, y2, y3⟩ := r.rev n
  exact ⟨G', y1, fun x hx => (y2 x).mp hx, y3⟩
end
end Fw

/- part FwT -/
namespace Fw
open PySem PySem.Spec PyProof.Rows L2
/-! ### the random numbers -/
def mixF (cell turn many : Int) : Int :=
  let m := (cell % 2147483629 + turn * turn * 7919 + 11) * 48271 % 2147483647
  let m2 := m * m % 2147483587
  (m2 + turn * 104729) * 39373 % 2147483629 / 64 % many
def takeF (st : RSt) (many : Int) : Int × RSt :=
  let turn := st.turn + 1
  let place := (turn % (st.cells.length : Int)).toNat
  let cell := st.cells.getD place 0
  if 10 ^ 18 ≤ cell then (cell % many, ⟨st.cells.set place (cell / many), turn⟩) else (mixF cell turn many, ⟨st.cells, turn⟩)
/-- what the random state must keep -/
def RSt.good (st : RSt) (room : Nat) : Prop := st.cells ≠ [] ∧ st.cells.length ≤ 63 ∧ 0 ≤ st.turn ∧ st.turn + room ≤ 2 ^ 60
def takeOk (st : RSt) (n : Int) : Bool := decide (0 < n) && decide (n < 1073741824) && decide (0 ≤ st.turn) && decide (st.turn < 2 ^ 60) && decide (0 < st.cells.length) && decide (st.cells.length ≤ 63)
def takeD : Den := fun ds st => match ds with
  | [.rs, .int n] => if takeOk st n = true then .ok (.int (takeF st n).1) (takeF st n).2 else .no
  | _ => .no
theorem takeD_inv (ds : List D) (st : RSt) : takeD ds st = .no ∨ ∃ n, ds = [.rs, .int n] ∧ takeOk st n = true ∧ takeD ds st = .ok (.int (takeF st n).1) (takeF st n).2 := by
  unfold takeD
  split
  · rename_i n
    by_cases h : takeOk st n = true
    · exact .inr ⟨n, rfl, h, if_pos h⟩
    · exact .inl (if_neg h)
  · exact .inl rfl
theorem takeF_cells (st : RSt) (n : Int) : (takeF st n).2.cells.length = st.cells.length := by
  unfold takeF
  dsimp only
  split <;> simp
theorem takeF_turn (st : RSt) (n : Int) : (takeF st n).2.turn = st.turn + 1 := by
  unfold takeF
  dsimp only
  split <;> rfl
theorem takeF_range (st : RSt) (n : Int) (h : 0 < n) : 0 ≤ (takeF st n).1 ∧ (takeF st n).1 < n := by
  unfold takeF
  dsimp only
  split
  · exact ⟨Int.emod_nonneg _ (by omega), Int.emod_lt_of_pos _ h⟩
  · exact ⟨Int.emod_nonneg _ (by omega), Int.emod_lt_of_pos _ h⟩
/-- a draw: some number below n, and the state goes on -/
theorem take_ok {st : RSt} {n : Int} {room : Nat} (g : st.good (room + 1)) (h0 : 0 < n) (h1 : n < 1073741824) : ∃ r st', takeD [.rs, .int n] st = .ok (.int r) st' ∧ 0 ≤ r ∧ r < n ∧ st'.good room := by
  obtain ⟨g1, g2, g3, g4⟩ := g
  have hl : 0 < st.cells.length := List.length_pos_iff.mpr g1
  have ok : takeOk st n = true := by
    unfold takeOk
    simp only [Bool.and_eq_true, decide_eq_true_eq]
    refine ⟨⟨⟨⟨⟨h0, h1⟩, g3⟩, ?_⟩, hl⟩, g2⟩
    have : (st.turn : Int) + ((room + 1 : Nat) : Int) ≤ 2 ^ 60 := g4
    omega
  refine ⟨_, _, by show (if takeOk st n = true then _ else _) = _; rw [if_pos ok], (takeF_range st n h0).1, (takeF_range st n h0).2, ?_, ?_, ?_, ?_⟩
  · intro z
    have := takeF_cells st n
    rw [z] at this
    simp at this
    omega
  · rw [takeF_cells]; exact g2
  · rw [takeF_turn]; omega
  · rw [takeF_turn]
    have : (st.turn : Int) + ((room + 1 : Nat) : Int) ≤ 2 ^ 60 := g4
    omega
def cellsF (ns : List Int) : List Int := if ns = [] then [7] else ns
/-- the state's heap ahead of a draw and behind it -/
theorem StOk.put {s c : Addr} {cl : Str → Addr} {st st' : RSt} {H H' : Hp} (h : StOk ⟨some (s, c), cl⟩ st H) (e : H' = upd (upd H s (.dK [(.inr "cells", .ref c), (.inr "turn", .int st'.turn)])) c (.lst (st'.cells.map V.int))) : StOk ⟨some (s, c), cl⟩ st' H' := by
  obtain ⟨ne, h2, h3⟩ := h
  subst e
  exact ⟨ne, by rw [upd_ne ne, upd_same], upd_same⟩
structure Blt (mg : Str → Option Value) : Prop where
  len : mg "len" = none
  range : mg "range" = none
  tuple : mg "tuple" = none
  list : mg "list" = none
  min : mg "min" = none
  max : mg "max" = none
  sum : mg "sum" = none
  all : mg "all" = none
  any : mg "any" = none
  int : mg "int" = none
  bool : mg "bool" = none
  str : mg "str" = none
  dict : mg "dict" = none
  set : mg "set" = none
  sorted : mg "sorted" = none
  isinstance : mg "isinstance" = none
  enumerate : mg "enumerate" = none
  zip : mg "zip" = none
  reversed : mg "reversed" = none
  divmod : mg "divmod" = none
  abs : mg "abs" = none
  ValueError : mg "ValueError" = none
/-! ### the law's end -/
def sayTrue (n : Nat) : VK := fun v _ => v = .bl true
/-- the law's own promise -/
def spLaw (K : PySem.W.Frag) : Sp := fun vs H Q _ => ∃ (a : Addr) (ns : List Int), vs = [.ref a] ∧ SqL K H a (ns.map V.int) ∧ ns.length ≤ 63 ∧ HLen H ∧ ∀ H', Q (.bl true) H'
/-- the promise of what begins a law: the state, new -/
def spBegin (K : PySem.W.Frag) : Sp := fun vs H Q _ => ∃ (a : Addr) (ns : List Int), vs = [.ref a] ∧ SqL K H a (ns.map V.int) ∧ ns.length ≤ 63 ∧ HLen H ∧
  ∀ s c H', s ≠ c → H' s = some (.dK [(.inr "cells", .ref c), (.inr "turn", .int 0)]) → H' c = some (.lst ((cellsF ns).map V.int)) → HLen H' → Q (.ref s) H'
def cSL (cl : Str → Addr) (W : WX) (f : En → Out Fl) : TS := fun D' σ H => ∃ H0 rs M, cS ⟨H0, ⟨rs, cl⟩, M, W, fun _ => none⟩ f D' σ H
theorem law_rest {X : Cx} {cl : Str → Addr} {W : WX} {st : List Stmt} {f : En → Out Fl} (h : ∀ H0 rs M, PSs X st (cS ⟨H0, ⟨rs, cl⟩, M, W, fun _ => none⟩ f)) : PSs X st (cSL cl W f) := ⟨fun pins s σ H D' I ⟨H0, rs, M, q⟩ => (h H0 rs M).run pins s σ H D' I q⟩
/-- behind the state's making -/
theorem law_start {cl : Str → Addr} {W : WX} {N : List Str} {k : Nat} {v0 : V} {s c : Addr} {H' : Hp} {ns : List Int} (hN : N.length = k + 2) (ne : s ≠ c) (h1 : H' s = some (.dK [(.inr "cells", .ref c), (.inr "turn", .int 0)])) (h2 : H' c = some (.lst ((cellsF ns).map V.int))) (hl : HLen H') :
    R ⟨H', ⟨some (s, c), cl⟩, [s, c], W, fun _ => none⟩ [] ⟨.no :: .sh .rs :: List.replicate k .no, ⟨cellsF ns, 0⟩⟩ ((L2.start N [v0]).set 1 (some (.ref s))) H' [] := by
  refine ⟨by simp [L2.start, hN], ⟨fun _ => [], (fun j d v z => by simp at z), fun i sv z => ?_, fun _ => List.nodup_nil, (fun _ _ _ z => nomatch z), (fun _ _ z => nomatch z)⟩, (fun _ _ z => nomatch z), (fun a z => z), ?_, ⟨ne, h1, h2⟩, (fun _ _ z _ => z), (fun _ z => nomatch z), hl, (fun _ z => nomatch z), (fun _ _ z => nomatch z)⟩
  · match i, z with
    | 0, z => cases z; trivial
    | 1, z =>
      cases z
      refine ⟨.ref s, ?_, .rs rfl⟩
      rw [List.getElem?_set_self]
      simp [L2.start, hN]
    | i + 2, z =>
      rw [List.getElem?_cons_succ, List.getElem?_cons_succ, List.getElem?_replicate] at z
      split at z
      · cases z; trivial
      · cases z
  · intro a ha
    rcases List.mem_cons.mp ha with rfl | ha
    · rw [h1]; simp
    · rw [List.mem_singleton.mp ha, h2]; simp
end Fw

/- part FwY -/
namespace Fw
open PySem PySem.Spec PyProof.Rows L2
section
variable {X : Cx} {B : Bs} {T ts : Tm} {ρ : En} {σ : L2.St} {H : Hp} {F : List Addr} {ps : List Opd} {ds : List D} {vs : List V} {Q : VK} {d d1 d2 d3 : D} {e a b c tg o : Expr} {f g fe fk : En → Out D} {pos p p2 pos' pos2 : Pos} {pa pb pc : Opd}
/-! ### a part of what stands on the pile's end -/
/-- what is on the pile's end gives way to a part of it -/
theorem R.part {d d' : D} {v v' : V} (h : R B (T ++ [(d, v)]) ρ σ H F) (k : ∀ {Hs : Hp} {G : List Addr}, (∀ b o, Hs b = some o → H b = some o) → Rp B.S H Hs d v G → G.Nodup → ∃ G', Rp B.S H Hs d' v' G' ∧ G'.Nodup ∧ ∀ x ∈ G', x ∈ G) : R B (T ++ [(d', v')]) ρ σ H F := by
  obtain ⟨fp, p⟩ := h.pt
  obtain ⟨G', r', nd', sub⟩ := k (fun b o e => (hid_some e).2) (p.tm T.length d v (by simp)) (p.nd _)
  refine { h with pt := ⟨fpSet fp (.inl T.length) G', ⟨fun j d2 v2 e => ?_, fun i s e => ?_, fun i => ?_, fun i j a hi hj => ?_, fun i a hi => ?_⟩⟩ }
  · rcases last_get e with ⟨hj, e⟩ | ⟨ej, e⟩
    · rw [fpSet_ne (by intro z; cases z; exact Nat.lt_irrefl _ hj)]
      exact p.tm j _ _ (by rw [List.getElem?_append_left hj]; exact e)
    · cases e; rw [ej, fpSet_same]; exact r'
  · rw [fpSet_ne (by intro z; cases z)]; exact p.sl i s e
  · by_cases q : i = .inl T.length
    · rw [q, fpSet_same]; exact nd'
    · rw [fpSet_ne q]; exact p.nd i
  · have up : ∀ i, a ∈ fpSet fp (.inl T.length) G' i → a ∈ fp i := fun i hi => by
      by_cases q : i = .inl T.length
      · rw [q, fpSet_same] at hi; rw [q]; exact sub a hi
      · rwa [fpSet_ne q] at hi
    exact p.ap i j a (up i hi) (up j hj)
  · by_cases q : i = .inl T.length
    · rw [q, fpSet_same] at hi; exact p.sub _ a (sub a hi)
    · rw [fpSet_ne q] at hi; exact p.sub i a hi
theorem RpL.part {S : Gs} {H Hs : Hp} : ∀ {ds : List D} {vs : List V} {F : List Addr} {i : Nat} {d : D}, RpL S H Hs ds vs F → F.Nodup → ds[i]? = some d → ∃ v G, vs[i]? = some v ∧ Rp S H Hs d v G ∧ G.Nodup ∧ ∀ a ∈ G, a ∈ F
  | _, _, _, 0, _, .cons h r, n, e => by
    simp at e; subst e
    exact ⟨_, _, rfl, h, (List.nodup_append.mp n).1, fun a ha => List.mem_append_left _ ha⟩
  | _, _, _, i + 1, d, .cons h r, n, e => by
    obtain ⟨v, G, h1, h2, h3, h4⟩ := RpL.part (i := i) (d := d) r (List.nodup_append.mp n).2.1 (by simpa using e)
    exact ⟨v, G, by simpa using h1, h2, h3, fun a ha => List.mem_append_right _ (h4 a ha)⟩
/-- a list's, a tuple's items, by itself -/
def itemsD : D → Option (List D)
  | .lst _ xs => some xs
  | .tup xs => some xs
  | _ => none
theorem itemsD_rp {S : Gs} {Hs : Hp} {xs : List D} {v : V} {G : List Addr} (hs : ∀ b o, Hs b = some o → H b = some o) (r : Rp S H Hs d v G) (e : itemsD d = some xs) (n : G.Nodup) :
    ∃ a vs G', v = .ref a ∧ (H a = some (.lst vs) ∨ H a = some (.tup vs)) ∧ RpL S H Hs xs vs G' ∧ G'.Nodup ∧ ∀ x ∈ G', x ∈ G := by
  cases r <;> simp [itemsD] at e <;> subst e
  · rename_i h r; exact ⟨_, _, [], rfl, .inl (hs _ _ h), r, List.nodup_nil, fun _ z => nomatch z⟩
  · rename_i h r; exact ⟨_, _, _, rfl, .inl h, r, (List.nodup_cons.mp n).2, fun _ z => List.mem_cons_of_mem _ z⟩
  · rename_i h r; exact ⟨_, _, _, rfl, .inr (hs _ _ h), r, n, fun _ z => z⟩
/-- f[g], f's value by itself: what is told is its own -/
def evIxT (f g : En → Out D) : En → Out D := fun ρ => (f ρ).bind fun d ρ1 => (g ρ1).bind fun j ρ2 => match itemsD d, j with
  | some xs, .int i => match atI xs i with
    | some x => .ok x ρ2
    | none => .no
  | _, _ => .no
theorem R.topRp {v : V} (h : R B (T ++ [(d, v)]) ρ σ H F) : ∃ Hs G, (∀ b o, Hs b = some o → H b = some o) ∧ Rp B.S H Hs d v G ∧ G.Nodup := by
  obtain ⟨fp, p⟩ := h.pt
  exact ⟨_, _, fun b o e => (hid_some e).2, p.tm T.length d v (by simp), p.nd _⟩
theorem R.partIx {xs : List D} {v : V} {i : Int} {x : D} (h : R B (T ++ [(d, v)]) ρ σ H F) (e : itemsD d = some xs) (ei : atI xs i = some x) :
    ∃ a vs w, v = .ref a ∧ (H a = some (.lst vs) ∨ H a = some (.tup vs)) ∧ xs.length = vs.length ∧ atI vs i = some w ∧ R B (T ++ [(x, w)]) ρ σ H F := by
  obtain ⟨Hs, G, hs, r, n⟩ := h.topRp
  obtain ⟨a, vs, G', ev, ha, rl, n', sub⟩ := itemsD_rp hs r e n
  unfold atI at ei
  obtain ⟨j, h1, h2⟩ := Option.bind_eq_some_iff.mp ei
  obtain ⟨w, G2, h3, h4, _, _⟩ := rl.part n' h2
  have hw : atI vs i = some w := by unfold atI; rw [← rl.length, h1]; exact h3
  refine ⟨a, vs, w, ev, ha, rl.length, hw, h.part fun {Hs2 Gx} hs2 r2 n2 => ?_⟩
  obtain ⟨a2, vs2, G3, ev2, ha2, rl2, n3, sub3⟩ := itemsD_rp hs2 r2 e n2
  rw [ev] at ev2; cases ev2
  have evs : vs2 = vs := by
    rcases ha with ha | ha <;> rcases ha2 with ha2 | ha2 <;> rw [ha] at ha2 <;> cases ha2 <;> rfl
  subst evs
  obtain ⟨w2, G4, k1, k2, k3, k4⟩ := rl2.part n3 h2
  rw [h3] at k1; cases k1
  exact ⟨G4, k2, k3, fun x hx => sub3 x (k4 x hx)⟩
theorem ev_ixT (ha : PE X a (cE B f)) (hb : PE X b (cE B g)) (hs : PlainIx b) : PE X (.Subscript a b pos) (cE B (evIxT f g)) :=
  (pe_ix ix_seq ha hb hs).imp fun σ H Q ⟨T, ρ, F, r, q⟩ => by
    refine ⟨T, ρ, F, r, Out.wp_mono (Out.wp_bind q) (fun d ρ1 q v H1 F1 r1 => ?_) fun _ _ z => z⟩
    refine ⟨T ++ [(d, v)], ρ1, F1, r1, Out.wp_mono (Out.wp_bind q) (fun j ρ2 q w H2 F2 r2 => ?_) fun x ρ2 z cls dd H F xr r => z cls dd H F xr r.drop⟩
    split at q
    · rename_i xs i ed
      split at q
      · rename_i x ex
        obtain ⟨_, r3⟩ := top_rp r2
        cases r3.int
        obtain ⟨a, vs, w, rfl, hh, hl, hw, r4⟩ := (r2.drop1).partIx ed ex
        have fin := q w H2 F2 r4
        rcases hh with hh | hh
        · exact .inl ⟨a, vs, i, w, rfl, rfl, SqL.of hh, hw, fin⟩
        · exact .inr (.inl ⟨a, vs, i, w, rfl, rfl, SqT.of hh, hw, fin⟩)
      · exact q.elim
    · exact q.elim
/-! ### range(i, j, c) -/
def rgC (i c : Int) (n : Nat) : List D := (List.range n).map fun k => .int (i + (k : Nat) * c)
def itRgC (ps : List Opd) : En → Out (List D) := fun ρ => (evOps ps ρ).bind fun ds ρ' => match ds with
  | [.int i, .int j, .int (-1)] => if rgOk j i = true then .ok (rgC i (-1) (i - j).toNat) ρ' else .no
  | _ => .no
theorem itok_rangeC {lo c : Int} {n : Nat} (hz : n ≤ sizeLine) : ItOk B (Itc lo c n) (rgC lo c n) [] := by
  refine ⟨by simpa [rgC] using hz, fun T T2 ρ σ H F r i => ⟨fun hi => (show n ≤ i by simpa [rgC] using hi), fun d ed => ?_⟩⟩
  unfold rgC at ed
  rw [List.getElem?_map] at ed
  by_cases hi : i < n
  · rw [List.getElem?_range hi] at ed
    cases ed
    refine ⟨hi, fun x H' ⟨eH, ex⟩ => ?_⟩
    subst eH; subst ex
    exact ⟨F, r.push (.int _)⟩
  · rw [List.getElem?_eq_none (by simpa using hi)] at ed; cases ed
theorem ei_range3 (hg : Gl X "range") (hm : X.mg "range" = none) (ha : PE X a (tOpd B pa)) (hb : PE X b (tOpd B pb)) (hc : PE X c (tOpd B pc)) (h1 : starEach [a, b, c] X.env = [(false, eval a X.env), (false, eval b X.env), (false, eval c X.env)] := by rfl) (h2 : starEach [b, c] X.env = [(false, eval b X.env), (false, eval c X.env)] := by rfl) (h3 : starEach [c] X.env = [(false, eval c X.env)] := by rfl) :
    PI X tg (.Call (.Name "range" p) [a, b, c] [] pos) (cI B (itRgC [pa, pb, pc])) :=
  (pi_range3 hg hm (pa_cons ha (pa_cons hb (pa_cons hc pa_nil h3) (by rw [h2, h3])) (by rw [h1, h2])) (by rw [h1, h2]) (by rw [h2]; rfl)).imp fun σ H Rr ⟨T, ρ, F, r, q⟩ => by
    refine ops_run (ps := [pa, pb, pc]) r (Out.wp_mono (Out.wp_bind q) (fun ds ρ' q vs H' F' ts r' o => ?_) fun _ _ z => z)
    split at q
    · split at q
      · rename_i hk
        obtain ⟨v1, v2, v3, G1, G2, G3, rfl, r1, r2, r3⟩ := o.three r'
        obtain ⟨k1, k2, k3, k4, k5⟩ := rgOk_iff hk
        exact ⟨_, _, _, _, by rw [r1.int, r2.int, r3.int], RgC.neg k3 k4 k1 k2, q _ H' F' [] (by rw [List.append_nil]; exact r'.drop) (itok_rangeC k5)⟩
      · exact q.elim
    · exact q.elim
/-! ### x.pop(), x.pop(i): a part of an own object goes to the pile -/
theorem R.mutOut {i : Nat} {d d' x : D} {w : V} {a : Addr} {o : HO} (h : R B T ρ σ H F) (e : ρ.vs[i]? = some (.ow d)) (ev : σ[i]? = some (some (.ref a)))
    (mk : ∀ {Hs : Hp} {G : List Addr}, (∀ b o, Hs b = some o → H b = some o) → Rp B.S H Hs d (.ref a) G → G.Nodup →
      ∃ G' Gx, (∀ y ∈ G', y ∈ G) ∧ (∀ y ∈ Gx, y ∈ G) ∧ (∀ y ∈ G', y ∉ Gx) ∧ G'.Nodup ∧ Gx.Nodup ∧ a ∈ G ∧ ∀ {H' : Hp}, H' a = some o → (∀ b u, b ≠ a → H b = some u → H' b = some u) → Rp B.S H' Hs d' (.ref a) G' ∧ Rp B.S H' Hs x w Gx)
    (ho : ∀ vs, o = .lst vs ∨ o = .tup vs → vs.length ≤ sizeLine) :
    R B (T ++ [(x, w)]) { ρ with vs := ρ.vs.set i (.ow d') } σ (upd H a o) F := by
  obtain ⟨fp, p⟩ := h.pt
  obtain ⟨v, ev', r⟩ := (show RpV _ _ _ (.ow d) _ _ from p.sl i _ e)
  rw [ev] at ev'; cases ev'
  obtain ⟨G', Gx, hG', hGx, cross, nd', ndx, haG, mk⟩ := mk (fun _ _ z => (hid_some z).2) r (p.nd _)
  have haF : a ∈ F := p.sub _ _ haG
  have hh : hid (B.M ++ F) (upd H a o) = hid (B.M ++ F) H := hid_upd (List.mem_append_right _ haF)
  have ne : ∀ b u, b ≠ a → H b = some u → upd H a o b = some u := fun b u n q => by rw [upd_ne n]; exact q
  have haM : a ∉ B.M := fun z => h.dj a z haF
  have nea : ∀ j, j ≠ .inr i → ∀ x ∈ fp j, x ≠ a := fun j hj x hx z => by
    subst z
    exact hj (p.ap _ _ x hx haG)
  have key : ∀ j y, y ∈ fpSet (fpSet fp (.inl T.length) Gx) (.inr i) G' j → (j = .inr i ∧ y ∈ G') ∨ (j = .inl T.length ∧ y ∈ Gx) ∨ (j ≠ .inr i ∧ j ≠ .inl T.length ∧ y ∈ fp j) := by
    intro j y hy
    by_cases q : j = .inr i
    · rw [q, fpSet_same] at hy; exact .inl ⟨q, hy⟩
    · rw [fpSet_ne q] at hy
      by_cases q2 : j = .inl T.length
      · rw [q2, fpSet_same] at hy; exact .inr (.inl ⟨q2, hy⟩)
      · rw [fpSet_ne q2] at hy; exact .inr (.inr ⟨q, q2, hy⟩)
  refine { h with len := by simp [h.len], pt := ⟨fpSet (fpSet fp (.inl T.length) Gx) (.inr i) G', ⟨fun j d1 v1 q => ?_, fun j s q => ?_, fun j => ?_, fun j l y hj hl => ?_, fun j y hj => ?_⟩⟩, md := fun b hb => ?_, st := h.st.mono fun b hb u q => ?_, ext := fun b u q n => ?_, hl := h.hl.upd ho, own := fun b hb => ?_ }
  · rw [fpSet_ne (by intro z; cases z), hh]
    rcases last_get q with ⟨hj, q⟩ | ⟨ej, q⟩
    · rw [fpSet_ne (by intro z; cases z; exact Nat.lt_irrefl _ hj)]
      exact (p.tm j _ _ q).mono (fun x hx u z => ne x u (nea _ (by intro z; cases z) x hx) z) fun _ _ z => z
    · cases q
      rw [ej, fpSet_same]
      exact (mk upd_same ne).2
  · rw [hh]
    rcases getElem?_set' q with ⟨rfl, rfl⟩ | ⟨nj, q⟩
    · rw [fpSet_same]
      exact ⟨_, ev, (mk upd_same ne).1⟩
    · rw [fpSet_ne (by intro z; cases z; exact nj rfl), fpSet_ne (by intro z; cases z)]
      exact (p.sl j s q).mono (fun x hx u z => ne x u (nea _ (by intro z; cases z; exact nj rfl) x hx) z) fun _ _ z => z
  · by_cases q : j = .inr i
    · rw [q, fpSet_same]; exact nd'
    · rw [fpSet_ne q]
      by_cases q2 : j = .inl T.length
      · rw [q2, fpSet_same]; exact ndx
      · rw [fpSet_ne q2]; exact p.nd _
  · rcases key j y hj with ⟨ej, kj⟩ | ⟨ej, kj⟩ | ⟨ej, ej2, kj⟩ <;> rcases key l y hl with ⟨el, kl⟩ | ⟨el, kl⟩ | ⟨el, el2, kl⟩
    · rw [ej, el]
    · exact absurd kl (cross y kj)
    · exact absurd (p.ap _ _ y kl (hG' y kj)) el
    · exact absurd kj (cross y kl)
    · rw [ej, el]
    · exact absurd (p.ap _ _ y kl (hGx y kj)) el
    · exact absurd (p.ap _ _ y kj (hG' y kl)) ej
    · exact absurd (p.ap _ _ y kj (hGx y kl)) ej
    · exact p.ap _ _ y kj kl
  · rcases key j y hj with ⟨ej, kj⟩ | ⟨ej, kj⟩ | ⟨ej, ej2, kj⟩
    · exact p.sub _ _ (hG' y kj)
    · exact p.sub _ _ (hGx y kj)
    · exact p.sub _ _ kj
  · by_cases q : b = a
    · rw [q, upd_same]; simp
    · rw [upd_ne q]; exact h.md b hb
  · rw [upd_ne (by rintro rfl; exact haM (h.sM b hb))]; exact q
  · rw [upd_ne (by rintro rfl; rw [h.new b haF] at q; cases q)]; exact h.ext b u q n
  · by_cases q : b = a
    · rw [q, upd_same]; simp
    · rw [upd_ne q]; exact h.own b hb
theorem RpL.take1 {S : Gs} {H Hs : Hp} : ∀ {ds : List D} {vs : List V} {F : List Addr} {k : Nat} {d : D}, RpL S H Hs ds vs F → F.Nodup → ds[k]? = some d →
    ∃ v G' Gx, vs[k]? = some v ∧ (∀ y ∈ G', y ∈ F) ∧ (∀ y ∈ Gx, y ∈ F) ∧ (∀ y ∈ G', y ∉ Gx) ∧ G'.Nodup ∧ Gx.Nodup ∧ RpL S H Hs (ds.eraseIdx k) (vs.eraseIdx k) G' ∧ Rp S H Hs d v Gx
  | _, _, _, 0, _, .cons (F := F1) (G := F2) h r, n, e => by
    simp at e; subst e
    obtain ⟨n1, n2, n3⟩ := List.nodup_append.mp n
    exact ⟨_, F2, F1, rfl, fun y hy => List.mem_append_right _ hy, fun y hy => List.mem_append_left _ hy, fun y hy hy2 => n3 y hy2 y hy rfl, n2, n1, r, h⟩
  | _, _, _, k + 1, d, .cons (F := F1) (G := F2) h r, n, e => by
    obtain ⟨n1, n2, n3⟩ := List.nodup_append.mp n
    obtain ⟨v, G', Gx, h1, h2, h3, h4, h5, h6, h7, h8⟩ := RpL.take1 (k := k) (d := d) r n2 (by simpa using e)
    refine ⟨v, F1 ++ G', Gx, by simpa using h1, fun y hy => ?_, fun y hy => List.mem_append_right _ (h3 y hy), fun y hy => ?_, List.nodup_append.mpr ⟨n1, h5, fun x hx y hy => n3 x hx y (h2 y hy)⟩, h6, .cons h h7, h8⟩
    · rcases List.mem_append.mp hy with hy | hy
      · exact List.mem_append_left _ hy
      · exact List.mem_append_right _ (h2 y hy)
    · rcases List.mem_append.mp hy with hy | hy
      · exact fun z => n3 y hy y (h3 y z) rfl
      · exact h4 y hy
theorem R.popAt {i k : Nat} {x : D} (h : R B T ρ σ H F) (e : ρ.vs[i]? = some (.ow (.lst true ds))) (ek : ds[k]? = some x) :
    ∃ a vs w, σ[i]? = some (some (.ref a)) ∧ H a = some (.lst vs) ∧ vs.length = ds.length ∧ vs[k]? = some w ∧ R B (T ++ [(x, w)]) { ρ with vs := ρ.vs.set i (.ow (.lst true (ds.eraseIdx k))) } σ (upd H a (.lst (vs.eraseIdx k))) F := by
  obtain ⟨fp, p⟩ := h.pt
  obtain ⟨v, ev, r⟩ := (show RpV _ _ _ (.ow (.lst true ds)) _ _ from p.sl i _ e)
  generalize hG : fp (.inr i) = G0 at r
  cases r with
  | @lstO a vs _ F0 ha rl =>
    have n0 : F0.Nodup := by
      have := p.nd (.inr i)
      rw [hG] at this
      exact (List.nodup_cons.mp this).2
    obtain ⟨w, _, _, hw, _⟩ := rl.take1 n0 ek
    refine ⟨a, vs, w, ev, ha, rl.length.symm, hw, h.mutOut e ev (fun {Hs G} hs r n => ?_) (by
      intro us eu
      rcases eu with eu | eu <;> cases eu
      exact Nat.le_trans (List.length_eraseIdx_le ..) (h.hl _ _ (.inl ha)))⟩
    cases r with
    | @lstO _ vs2 _ F1 ha2 rl2 =>
      rw [ha] at ha2; cases ha2
      obtain ⟨na, n1⟩ := List.nodup_cons.mp n
      obtain ⟨w2, G', Gx, h1, h2, h3, h4, h5, h6, h7, h8⟩ := rl2.take1 n1 ek
      rw [hw] at h1; cases h1
      have naG : a ∉ G' := fun z => na (h2 a z)
      have naX : a ∉ Gx := fun z => na (h3 a z)
      refine ⟨a :: G', Gx, fun y hy => ?_, fun y hy => List.mem_cons_of_mem _ (h3 y hy), fun y hy => ?_, List.nodup_cons.mpr ⟨naG, h5⟩, h6, List.mem_cons_self, fun {H'} ha' kk => ⟨.lstO ha' (h7.mono (fun y hy u q => kk y u (by rintro rfl; exact naG hy) q) fun _ _ z => z), h8.mono (fun y hy u q => kk y u (by rintro rfl; exact naX hy) q) fun _ _ z => z⟩⟩
      · rcases List.mem_cons.mp hy with rfl | hy
        · exact List.mem_cons_self
        · exact List.mem_cons_of_mem _ (h2 y hy)
      · rcases List.mem_cons.mp hy with rfl | hy
        · exact naX
        · exact h4 y hy
def evPop (i : Nat) : En → Out D := fun ρ => match ρ.vs[i]? with
  | some (.ow (.lst true ds)) => match ds[ds.length - 1]? with
    | some x => .ok x { ρ with vs := ρ.vs.set i (.ow (.lst true ds.dropLast)) }
    | none => .no
  | _ => .no
theorem dropLast_erase {α : Type} (xs : List α) : xs.dropLast = xs.eraseIdx (xs.length - 1) := by
  rcases List.eq_nil_or_concat xs with rfl | ⟨ys, y, rfl⟩
  · rfl
  · simp [List.eraseIdx_append_of_length_le]
theorem ev_pop {i : Nat} (h : PE X e (tBM0 X.K "list" rPop (tVar i))) : PE X e (cE B (evPop i)) := h.imp fun σ H Q ⟨T, ρ, F, rr, q⟩ => by
  unfold evPop at q
  split at q
  · rename_i ds e0
    split at q
    · rename_i x ex
      obtain ⟨a, vs, w, ev, ha, hl, hw, r'⟩ := rr.popAt e0 ex
      refine ⟨_, ev, tyv_lst ha, a, vs, w, rfl, rfl, ha, by rw [hl]; exact hw, ?_⟩
      rw [dropLast_erase, hl]
      refine q w _ F ?_
      rw [dropLast_erase]
      exact r'
    · exact q.elim
  · exact q.elim
def evPopAt (i : Nat) (f : En → Out D) : En → Out D := fun ρ => match ρ.vs[i]? with
  | some (.ow (.lst true _)) => (f ρ).bind fun j ρ1 => match ρ1.vs[i]?, j with
    | some (.ow (.lst true ds)), .int k => if 0 ≤ k ∧ k < ds.length ∧ ds.length < 2 ^ 62 then match ds[k.toNat]? with
      | some x => .ok x { ρ1 with vs := ρ1.vs.set i (.ow (.lst true (ds.eraseIdx k.toNat))) }
      | none => .no
      else .no
    | _, _ => .no
  | _ => .no
theorem ev_popAt {i : Nat} (h : PE X e (tBM X.K "list" rPopAt (tVar i) (tCons (cE B f) tNil))) : PE X e (cE B (evPopAt i f)) := h.imp fun σ H Q ⟨T, ρ, F, rr, q⟩ => by
  unfold evPopAt at q
  split at q
  · rename_i ds0 e0
    obtain ⟨a0, vs0, ev0, ha0⟩ := own_lst rr e0
    refine ⟨_, ev0, tyv_lst ha0, T, ρ, F, rr, Out.wp_mono (Out.wp_bind q) (fun j ρ1 q v H1 F1 r1 => ?_) fun _ _ z => z⟩
    show rPopAt (.ref a0) [v] H1 Q
    split at q
    · rename_i ds k e1
      split at q
      · rename_i hk
        split at q
        · rename_i x ex
          obtain ⟨_, rj⟩ := top_rp r1
          cases rj.int
          obtain ⟨a, vs, w, ev, ha, hl, hw, r'⟩ := (r1.drop1).popAt e1 ex
          rw [ev0] at ev; cases ev
          refine ⟨_, vs, k, k.toNat, w, rfl, rfl, ha, by omega, by omega, ?_, hw, q w _ F1 r'⟩
          rw [hl]
          unfold seqIndex?
          simp only [if_neg (show ¬ k < 0 by omega)]
          rw [if_pos (by simp only [Bool.and_eq_true, decide_eq_true_eq]; omega)]
        · exact q.elim
      · exact q.elim
    · exact q.elim
  · exact q.elim
end
end Fw

/- part FwZ -/
namespace Fw
open PySem PySem.Spec PyProof.Rows L2
section
variable {X : Cx} {B : Bs} {T ts : Tm} {ρ : En} {σ : L2.St} {H : Hp} {F : List Addr} {ps : List Opd} {ds : List D} {vs : List V} {Q : VK} {d d1 d2 d3 : D} {e a b c tg o : Expr} {f g h fe fk : En → Out D} {pos p p2 pos' pos2 : Pos} {pa pb pc : Opd}
/-! ### a op b op' c, of whole numbers -/
def evChI (c1 c2 : Int → Int → Bool) (f g h : En → Out D) : En → Out D := fun ρ => (f ρ).bind fun x ρ1 => (g ρ1).bind fun y ρ2 => match x, y with
  | .int i, .int j => if c1 i j = true then (h ρ2).bind fun z ρ3 => match z with
      | .int k => .ok (.bl (c2 j k)) ρ3
      | _ => .no
    else .ok (.bl false) ρ2
  | _, _ => .no
theorem ch_run {c1 c2 : Int → Int → Bool} (T : Tm) (ρ : En) (F : List Addr) (r : R B T ρ σ H F) {Q : VK} (q : (evChI c1 c2 f g h ρ).wp (fun d ρ' => ∀ v H' F', R B (T ++ [(d, v)]) ρ' σ H' F' → Q v H') (exQ B T σ)) : tChain (rI0 fun i j => .bl (c1 i j)) (rI0 fun i j => .bl (c2 i j)) (cE B f) (cE B g) (cE B h) σ H Q := by
  refine ⟨T, ρ, F, r, Out.wp_mono (Out.wp_bind q) (fun x ρ1 q v H1 F1 r1 => ?_) fun _ _ z => z⟩
  refine ⟨T ++ [(x, v)], ρ1, F1, r1, Out.wp_mono (Out.wp_bind q) (fun y ρ2 q w H2 F2 r2 => ?_) fun x ρ2 z cls dd H F xr r => z cls dd H F xr r.drop⟩
  split at q
  · rename_i i j _
    obtain ⟨_, ry⟩ := top_rp r2
    obtain ⟨_, rx⟩ := top_rp r2.drop1
    cases ry.int; cases rx.int
    refine ⟨i, j, rfl, rfl, c1 i j, rfl, ?_⟩
    cases hc : c1 i j with
    | true =>
      rw [hc, if_pos rfl] at q
      rw [if_pos rfl]
      refine ⟨T, ρ2, F2, r2.drop1.drop1, Out.wp_mono (Out.wp_bind q) (fun z ρ3 q u H3 F3 r3 => ?_) fun _ _ z => z⟩
      split at q
      · obtain ⟨_, rz⟩ := top_rp r3
        cases rz.int
        exact ⟨_, _, rfl, rfl, q _ _ F3 (r3.drop1.push (.bl _))⟩
      · exact q.elim
    | false =>
      rw [hc, if_neg (by simp)] at q
      rw [if_neg (by simp)]
      exact q _ _ F2 (r2.drop1.drop1.push (.bl _))
  · exact q.elim
theorem ev_ch {op op' : CmpOp} {c1 c2 : Int → Int → Bool} (ho : OpR X (compareOp op) (rI0 fun i j => .bl (c1 i j))) (ho' : OpR X (compareOp op') (rI0 fun i j => .bl (c2 i j))) (ha : PE X a (cE B f)) (hb : PE X b (cE B g)) (hc : PE X c (cE B h))
    (hm : lastMarks [op, op'] [b, c] = false := by with_unfolding_all rfl) : PE X (.Compare a [op, op'] [b, c] pos) (cE B (evChI c1 c2 f g h)) :=
  (pe_chain ho ho' ha hb hc hm).imp fun σ H Q ⟨T, ρ, F, r, q⟩ => ch_run T ρ F r q
theorem et_ch {op op' : CmpOp} {c1 c2 : Int → Int → Bool} (ho : OpR X (compareOp op) (rI0 fun i j => .bl (c1 i j))) (ho' : OpR X (compareOp op') (rI0 fun i j => .bl (c2 i j))) (ha : PE X a (cE B f)) (hb : PE X b (cE B g)) (hc : PE X c (cE B h))
    (hm : lastMarks [op, op'] [b, c] = false := by with_unfolding_all rfl) : L2.PT X (.Compare a [op, op'] [b, c] pos) (cT B (evT (evChI c1 c2 f g h))) :=
  (pt_chain ho ho' ha hb hc hm).imp fun σ H Q ⟨T, ρ, F, r, q⟩ => by
    refine ch_run T ρ F r (Out.wp_mono (Out.wp_bind q) (fun d ρ' q v H' F' r' => ?_) fun _ _ z => z)
    split at q
    · cases bl_of r'
      exact ⟨_, rfl, q _ _ r'.drop1⟩
    · exact q.elim
/-! ### x, y = a, b -/
def sPar (i j : Nat) (f g : En → Out D) : En → Out Fl := fun ρ => (f ρ).bind fun x ρ1 => (g ρ1).bind fun y ρ2 => .ok .nx { ρ2 with vs := (ρ2.vs.set j (mkSv y)).set i (mkSv x) }
theorem es_par {i j : Nat} {x y : Str} {px py pt : Pos} {kt k2 pt2} (hN : X.N.Nodup) (ha : PE X a (cE B f)) (hb : PE X b (cE B g)) (hc : X.calm = true := by rfl) (hi : X.N[i]? = some x := by rfl) (hj : X.N[j]? = some y := by rfl) (hij : i ≠ j := by decide)
    (hx : X.env.scope.names.lookup x = some .local := by rfl) (hy : X.env.scope.names.lookup y = some .local := by rfl)
    (h1 : starEach [a, b] X.env = (false, eval a X.env) :: starEach [b] X.env := by rfl) (h2 : starEach [b] X.env = (false, eval b X.env) :: starEach [] X.env := by rfl)
    (hw : swappedStores [.Tuple [.Name x px, .Name y py] kt pt] (.Tuple [a, b] k2 pt2) X.env = pure (some [x, y]) := by rfl)
    (hs : swapsWithSole [.Tuple [.Name x px, .Name y py] kt pt] (.Tuple [a, b] k2 pt2) pos.line X.env = pure false := by rfl) (hmi : B.free [i] = true := by rfl) (hmj : B.free [j] = true := by rfl) :
    PS X (.Assign [.Tuple [.Name x px, .Name y py] kt pt] (.Tuple [a, b] k2 pt2) pos) (cS B (sPar i j f g)) :=
  (ps_par hc hN hi hj hij hx hy (pa_cons ha (pa_cons hb pa_nil h2) h1) hw hs).imp fun D' σ H ⟨T, ρ, F, r, q⟩ => by
    refine ⟨T, ρ, F, r, Out.wp_mono (Out.wp_bind q) (fun x ρ1 q v H1 F1 r1 => ?_) fun _ _ z => exS z⟩
    refine ⟨T ++ [(x, v)], ρ1, F1, r1, Out.wp_mono (Out.wp_bind q) (fun y ρ2 q w H2 F2 r2 => ?_) fun x ρ2 z cls dd H F xr r => exS z cls dd H F xr r.drop⟩
    refine ⟨_, _, rfl, ?_⟩
    rw [List.set_comm _ _ hij]
    exact q _ _ _ ((r2.store (i := j) hmj).store hmi)
/-! ### x += e of whole numbers -/
def sAug (i : Nat) (k : Int → Int → Int) (f : En → Out D) : En → Out Fl := fun ρ => match ρ.vs[i]? with
  | some (.sh (.int x)) => (f ρ).bind fun y ρ1 => match y with
    | .int j => .ok .nx { ρ1 with vs := ρ1.vs.set i (mkSv (.int (k x j))) }
    | _ => .no
  | _ => .no
theorem es_aug {i : Nat} {k : Int → Int → Int} {o' : Operator} (h : PS X (.AugAssign a o' e pos) (tAug i (cE B f) (ipI k))) (hme : B.free [i] = true := by rfl) : PS X (.AugAssign a o' e pos) (cS B (sAug i k f)) := h.imp fun D' σ H ⟨T, ρ, F, r, q⟩ => by
  unfold sAug at q
  split at q
  · rename_i x0 e0
    obtain ⟨v, ev, r'⟩ := r.read e0
    obtain ⟨_, rv⟩ := top_rp r'
    cases rv.int
    refine ⟨_, ev, T, ρ, F, r, Out.wp_mono (Out.wp_bind q) (fun y ρ1 q w H1 F1 r1 => ?_) fun _ _ z => exS z⟩
    split at q
    · obtain ⟨_, rw⟩ := top_rp r1
      cases rw.int
      exact ⟨_, _, rfl, rfl, q _ _ _ ((r1.drop1.push (.int _)).store hme)⟩
    · exact q.elim
  · exact q.elim
theorem ip_of {X : Cx} {op : Operator} {k : Int → Int → Int} (h : OpR X (inplaceOp op) (rI0 fun i j => .int (k i j))) : PIp X op (ipI k) := fun pins s σ H x y v u Q I rx ry q => h pins s σ H x y v u Q I rx ry q
/-! ### d.get(k, e) -/
def evGet2 (i : Nat) (fk fe : En → Out D) : En → Out D := fun ρ => match ρ.vs[i]?.bind Sv.get? with
  | some (.dk _ _ _) => (fk ρ).bind fun k ρ1 => (fe ρ1).bind fun x ρ2 => match ρ2.vs[i]?.bind Sv.get? with
    | some (.dk _ ks xs) => match keyD k with
      | some q => match getD ks xs q with
        | some y => if shr y = true then .ok y ρ2 else .no
        | none => .ok x ρ2
      | none => .no
    | _ => .no
  | _ => .no
theorem slot_dk {i : Nat} {o : Bool} {ks : List Key} {xs : List D} (r : R B T ρ σ H F) (e : ρ.vs[i]?.bind Sv.get? = some (.dk o ks xs)) : ∃ a kvs G, σ[i]? = some (some (.ref a)) ∧ Rd H a (.dK kvs) ∧ ks = kvs.map (·.1) ∧ RpL B.S H (hid (B.M ++ F) H) xs (kvs.map (·.2)) G := by
  obtain ⟨s, es, eg⟩ := Option.bind_eq_some_iff.mp e
  obtain ⟨fp, p⟩ := r.pt
  have q := p.sl i _ es
  have key : ∀ G, (∃ v, σ[i]? = some (some v) ∧ Rp B.S H (hid (B.M ++ F) H) (.dk o ks xs) v G) → ∃ a kvs G, σ[i]? = some (some (.ref a)) ∧ Rd H a (.dK kvs) ∧ ks = kvs.map (·.1) ∧ RpL B.S H (hid (B.M ++ F) H) xs (kvs.map (·.2)) G := fun G ⟨v, ev, rv⟩ => by
    obtain ⟨a, kvs, G', rfl, ha, hk, rl, _⟩ := dk_rp hid_sub rv
    exact ⟨a, kvs, G', ev, ha, hk, rl⟩
  cases s with
  | no => cases eg
  | sh d => cases eg; exact key _ q
  | ow d => cases eg; exact key _ q
theorem ev_get2 {i : Nat} (h : PE X e (tDGet2 (tVar i) (cE B fk) (cE B fe))) : PE X e (cE B (evGet2 i fk fe)) := h.imp fun σ H Q ⟨T, ρ, F, r, q⟩ => by
  unfold evGet2 at q
  split at q
  · rename_i o ks xs e0
    obtain ⟨a, kvs, G, ev, ha, hk, rl⟩ := slot_dk r e0
    refine ⟨_, ev, a, rfl, .inl ⟨kvs, ha⟩, T, ρ, F, r, Out.wp_mono (Out.wp_bind q) (fun k ρ1 q v H1 F1 r1 => ?_) fun _ _ z => z⟩
    refine ⟨T ++ [(k, v)], ρ1, F1, r1, Out.wp_mono (Out.wp_bind q) (fun x ρ2 q w H2 F2 r2 => ?_) fun x ρ2 z cls dd H F xr r => z cls dd H F xr r.drop⟩
    split at q
    · rename_i o2 ks2 xs2 e2
      split at q
      · rename_i q0 ek
        obtain ⟨a2, kvs2, G2, ev2, ha2, hk2, rl2⟩ := slot_dk r2 e2
        rw [ev] at ev2; cases ev2
        obtain ⟨_, rk⟩ := top_rp r2.drop1
        have gg := getD_rp (q := q0) rl2
        rw [← hk2] at gg
        have hkey := keyD_rp rk.1 ek
        split at q
        · rename_i y ey
          rw [ey] at gg
          obtain ⟨u, G3, h1, h2, _⟩ := gg
          split at q
          · rename_i hs
            have := h2.shr hs
            subst this
            refine ⟨some u, ?_, q u _ F2 (r2.drop1.drop1.push h2)⟩
            rw [hkey, ← h1]
            exact .inl ⟨_, _, ha2, rfl, rfl⟩
          · exact q.elim
        · rename_i ey
          rw [ey] at gg
          refine ⟨none, ?_, q w _ F2 (R.dropMid (fr := [(k, v)]) r2)⟩
          rw [hkey, ← gg]
          exact .inl ⟨_, _, ha2, rfl, rfl⟩
      · exact q.elim
    · exact q.elim
  · exact q.elim
/-! ### dict(pairs) -/
def pairsD : List D → Option (List (Key × D))
  | [] => some []
  | .tup [k, x] :: ds => (keyD k).bind fun q => (pairsD ds).map ((q, x) :: ·)
  | _ => none
def mergeD (ps : List (Key × D)) (ks : List Key) (xs : List D) : List Key × List D := match ps with
  | [] => (ks, xs)
  | (q, x) :: ps => mergeD ps (putKs ks q) (putXs ks xs q x)
def opDict : List D → Option D
  | [.lst _ xs] => if shrL xs = true then (pairsD xs).map fun ps => .dk true (mergeD ps [] []).1 (mergeD ps [] []).2 else none
  | _ => none
def rDictP (K : PySem.W.Frag) : List V → Hp → VK → Prop := fun xs H Q => ∃ (a : Addr) (ps : List Addr) (kvs : List (Key × V)), xs = [.ref a] ∧ SqL K H a (ps.map V.ref) ∧ Paired (fun p kv => SqT K H p [kV kv.1, kv.2]) ps kvs ∧
    ∀ p, H p = none → Q (.ref p) (upd H p (.dK (mergeK [] kvs)))
theorem pairsD_rp {K : PySem.W.Frag} {S : Gs} {Hs : Hp} (hs : ∀ b o, Hs b = some o → H b = some o) : ∀ {xs : List D} {vs : List V} {ps : List (Key × D)}, RpL S H Hs xs vs [] → pairsD xs = some ps →
    ∃ (as : List Addr) (kvs : List (Key × V)), vs = as.map V.ref ∧ Paired (fun p kv => SqT K H p [kV kv.1, kv.2]) as kvs ∧ ps.map (·.1) = kvs.map (·.1) ∧ RpL S H Hs (ps.map (·.2)) (kvs.map (·.2)) []
  | [], vs, ps, r, e => by
    cases r; cases e
    exact ⟨[], [], rfl, .nil, rfl, .nil⟩
  | d :: xs, [], ps, r, e => by cases r
  | d :: xs, v :: vs, ps, r, e => by
    obtain ⟨r1, r2⟩ := r.cons_nil
    unfold pairsD at e
    split at e
    · rename_i hh; cases hh
    · rename_i k x ds ex
      cases ex
      obtain ⟨q, ek, e⟩ := Option.bind_eq_some_iff.mp e
      obtain ⟨ps', e', rfl⟩ := Option.map_eq_some_iff.mp e
      obtain ⟨as, kvs, h1, h2, h3, h4⟩ := pairsD_rp (K := K) hs r2 e'
      generalize eG : ([] : List Addr) = G at r1
      cases r1 with
      | @tup a ws _ _ ha rl =>
        subst eG
        match ws, rl, rl.length with
        | [v1, v2], rl, _ =>
          obtain ⟨k1, k2⟩ := rl.cons_nil
          obtain ⟨k2, _⟩ := k2.cons_nil
          refine ⟨a :: as, (q, v2) :: kvs, by rw [h1]; rfl, .cons ?_ h2, by simp [h3], .cons0 k2 h4⟩
          rw [show kV (q, v2).1 = v1 from (keyD_rp k1 ek).symm]
          exact SqT.of (hs _ _ ha)
    · cases e
theorem mergeD_rp {S : Gs} {Hs : Hp} : ∀ {ps : List (Key × D)} {kvs : List (Key × V)} {acc : List (Key × V)} {xs : List D}, ps.map (·.1) = kvs.map (·.1) → RpL S H Hs (ps.map (·.2)) (kvs.map (·.2)) [] → (acc.map (·.1)).Nodup → RpL S H Hs xs (acc.map (·.2)) [] →
    (mergeD ps (acc.map (·.1)) xs).1 = (mergeK acc kvs).map (·.1) ∧ RpL S H Hs (mergeD ps (acc.map (·.1)) xs).2 ((mergeK acc kvs).map (·.2)) []
  | [], [], acc, xs, _, _, _, r => ⟨rfl, r⟩
  | [], _ :: _, acc, xs, h, _, _, r => by simp at h
  | _ :: _, [], acc, xs, h, _, _, r => by simp at h
  | (q, x) :: ps, (q2, v) :: kvs, acc, xs, h, rl, nd, r => by
    simp only [List.map_cons, List.cons.injEq] at h
    obtain ⟨h1, h2⟩ := h
    subst h1
    rw [List.map_cons, List.map_cons] at rl
    obtain ⟨r1, r2⟩ := rl.cons_nil
    obtain ⟨G', rp, sub, _⟩ := put_rp (q := q) r1 List.nodup_nil nd r List.nodup_nil (fun _ z => nomatch z)
    have : G' = [] := List.eq_nil_iff_forall_not_mem.mpr fun a ha => (sub a ha).elim (fun z => nomatch z) (fun z => nomatch z)
    subst this
    have nd' : ((putK acc q v).map (·.1)).Nodup := by
      rw [put_keys]
      unfold putKs
      split
      · exact nd
      · rename_i hn
        rw [List.nodup_append]
        refine ⟨nd, by simp, fun y hy z hz => ?_⟩
        simp at hz
        subst hz
        rintro rfl
        exact hn (List.any_eq_true.mpr ⟨y, hy, by simp⟩)
    have ih := mergeD_rp (ps := ps) (kvs := kvs) (acc := putK acc q v) h2 r2 nd' rp
    rw [put_keys] at ih
    exact ih
theorem R.newK {ks : List Key} {xs : List D} {kvs : List (Key × V)} {p : Addr} (h : R B T ρ σ H F) (hk : ks = kvs.map (·.1)) (r : RpL B.S H (hid (B.M ++ F) H) xs (kvs.map (·.2)) []) (hp : H p = none) : R B (T ++ [(.dk true ks xs, .ref p)]) ρ σ (upd H p (.dK kvs)) (p :: F) := by
  have hl := r.length
  have := (h.pushL r).make (keep := true) (o := .dK kvs) (d := .dk true ks xs) hp (by intro vs e; rcases e with e | e <;> cases e) fun e1 _ r => by
    rw [if_pos rfl, hk]
    rw [zip_fst hl, zip_snd hl] at r
    exact .dkO e1 r
  rw [if_pos rfl] at this
  exact this
theorem opDict_S {K : PySem.W.Frag} : OpS B (rDictP K) opDict := by
  intro T ts ρ σ H F ps ds vs Q d h o e q
  unfold opDict at e
  split at e
  · rename_i o2 xs
    split at e
    · rename_i hx
      obtain ⟨pp, e1, rfl⟩ := Option.map_eq_some_iff.mp e
      obtain ⟨v1, G1, rfl, r1⟩ := o.one h
      obtain ⟨a, vs, G', rfl, ha, rl⟩ := seqR_lst r1
      have := RpL.shr rl hx
      subst this
      obtain ⟨as, kvs, rfl, hp, hk, rk⟩ := pairsD_rp (K := K) hid_sub rl e1
      have mm := mergeD_rp (acc := []) (xs := []) hk rk List.nodup_nil .nil
      refine ⟨a, as, kvs, rfl, SqL.of ha, hp, fun p np => ?_⟩
      exact q _ _ _ (h.drop.newK mm.1 mm.2 np)
    · cases e
  · cases e
/-! ### bits -/
def opShl : List D → Option D := opI2 (fun i j => decide (0 ≤ j) && decide (j ≤ 1000000) && decide (i.natAbs < 2 ^ 64)) fun i j => i * 2 ^ j.toNat
theorem opShl_S : OpS B (rr2 (rI CPow fun i j => .int (i * 2 ^ j.toNat))) opShl := opI2_S fun i j h => by
  simp only [Bool.and_eq_true, decide_eq_true_eq] at h
  exact ⟨h.1.1, h.1.2, h.2⟩
def opShr : List D → Option D := opI2 (fun _ j => decide (0 ≤ j)) fun i j => i / 2 ^ j.toNat
theorem opShr_S : OpS B (rr2 (rI (fun _ j => 0 ≤ j) fun i j => .int (i / 2 ^ j.toNat))) opShr := opI2_S fun i j h => of_decide_eq_true h
def opBAnd : List D → Option D := opI2 yesC fun i j => Builtin.bitAnd i j
theorem opBAnd_S : OpS B (rr2 (rI0 fun i j => .int (Builtin.bitAnd i j))) opBAnd := opI2_0
def opBOr : List D → Option D := opI2 yesC fun i j => Builtin.bitOr i j
theorem opBOr_S : OpS B (rr2 (rI0 fun i j => .int (Builtin.bitOr i j))) opBOr := opI2_0
def opBXor : List D → Option D := opI2 yesC fun i j => Builtin.bitXor i j
theorem opBXor_S : OpS B (rr2 (rI0 fun i j => .int (Builtin.bitXor i j))) opBXor := opI2_0
end
end Fw

/- part FwZb -/
namespace Fw
open PySem PySem.Spec PyProof.Rows L2
section
variable {X : Cx} {B : Bs} {T ts : Tm} {ρ : En} {σ : L2.St} {H : Hp} {F : List Addr} {d : D} {v : V} {pos : Pos}
/-! ### what stands on the pile as a slot more, and back -/
theorem R.unpile (h : R B (T ++ [(d, v)] ++ ts) ρ σ H F) : R B (T ++ ts) ⟨ρ.vs ++ [.ow d], ρ.st⟩ (σ ++ [some v]) H F := by
  obtain ⟨fp, p⟩ := h.pt
  have hl := h.len
  -- where each place was
  let w : Ix → Ix := fun j => match j with
    | .inl j => if j < T.length then .inl j else .inl (j + 1)
    | .inr i => if i = ρ.vs.length then .inl T.length else .inr i
  have winj : ∀ i j, w i = w j → i = j := by
    intro i j e
    cases i <;> cases j <;> simp only [w] at e <;> split at e <;> split at e <;> first | (cases e; done) | (injection e with e; congr 1 <;> omega) | (congr 1 <;> omega)
  refine { len := by simp [hl], pin := fun i a q => by
             have := h.pin i a q
             rw [List.getElem?_append_left (List.getElem?_eq_some_iff.mp this).1]; exact this
           , pt := ⟨fun j => fp (w j), ⟨fun j d' v' e => ?_, fun i s e => ?_, fun j => p.nd _, fun i j a hi hj => winj _ _ (p.ap _ _ a hi hj), fun i a hi => p.sub _ a hi⟩⟩, dj := h.dj, sM := h.sM, md := h.md, st := h.st, ext := h.ext, new := h.new, hl := h.hl, own := h.own }
  · by_cases hj : j < T.length
    · simp only [w, if_pos hj]
      refine p.tm j d' v' ?_
      rw [List.getElem?_append_left hj] at e
      rw [List.append_assoc, List.getElem?_append_left hj]; exact e
    · simp only [w, if_neg hj]
      refine p.tm (j + 1) d' v' ?_
      rw [List.getElem?_append_right (by omega)] at e
      rw [List.getElem?_append_right (by simp; omega)]
      rw [show j + 1 - (T ++ [(d, v)]).length = j - T.length by simp]; exact e
  · by_cases hi : i = ρ.vs.length
    · simp only [w, if_pos hi]
      subst hi
      have es : s = .ow d := by simpa using e.symm
      subst es
      refine ⟨v, ?_, p.tm T.length d v (by simp)⟩
      rw [← hl]; simp
    · simp only [w, if_neg hi]
      have hi' : i < ρ.vs.length := by
        have := (List.getElem?_eq_some_iff.mp e).1
        simp at this; omega
      rw [List.getElem?_append_left hi'] at e
      rw [List.getElem?_append_left (by omega)]
      exact p.sl i s e
theorem R.repile {vs : List Sv} {st : RSt} (h : R B T ⟨vs ++ [.ow d], st⟩ (σ ++ [some v]) H F) (hl : σ.length = vs.length) (kp : ∀ i a, B.me i = some a → i < σ.length) : R B (T ++ [(d, v)]) ⟨vs, st⟩ σ H F := by
  obtain ⟨fp, p⟩ := h.pt
  obtain ⟨v', ev', rv⟩ := (show RpV _ _ _ (.ow d) _ _ from p.sl vs.length (.ow d) (by simp))
  rw [← hl] at ev'
  have ev2 : v' = v := by simpa using ev'.symm
  subst ev2
  let w : Ix → List Addr := fun j => match j with
    | .inl j => if j < T.length then fp (.inl j) else if j = T.length then fp (.inr vs.length) else []
    | .inr i => if i < vs.length then fp (.inr i) else []
  have key : ∀ i a, a ∈ w i → ∃ j, a ∈ fp j ∧ ((∃ k, i = .inl k ∧ k < T.length ∧ j = .inl k) ∨ (i = .inl T.length ∧ j = .inr vs.length) ∨ ∃ k, i = .inr k ∧ k < vs.length ∧ j = .inr k) := by
    intro i a ha
    cases i with
    | inl k =>
      simp only [w] at ha
      split at ha
      · exact ⟨_, ha, .inl ⟨k, rfl, by assumption, rfl⟩⟩
      · split at ha
        · rename_i e; exact ⟨_, ha, .inr (.inl ⟨by rw [e], rfl⟩)⟩
        · cases ha
    | inr k =>
      simp only [w] at ha
      split at ha
      · exact ⟨_, ha, .inr (.inr ⟨k, rfl, by assumption, rfl⟩)⟩
      · cases ha
  refine { len := by simpa using hl, pin := fun i a q => by
             have := h.pin i a q
             rw [List.getElem?_append_left (kp i a q)] at this; exact this
           , pt := ⟨w, ⟨fun j d' v2 e => ?_, fun i s e => ?_, fun j => ?_, fun i j a hi hj => ?_, fun i a hi => ?_⟩⟩, dj := h.dj, sM := h.sM, md := h.md, st := h.st, ext := h.ext, new := h.new, hl := h.hl, own := h.own }
  · rcases last_get e with ⟨hj, e⟩ | ⟨ej, e⟩
    · simp only [w, if_pos hj]; exact p.tm j _ _ e
    · cases e
      simp only [w, ej, if_neg (Nat.lt_irrefl _), if_pos rfl]; exact rv
  · have hi : i < vs.length := (List.getElem?_eq_some_iff.mp e).1
    simp only [w, if_pos hi]
    have := p.sl i s (by rw [List.getElem?_append_left hi]; exact e)
    rwa [List.getElem?_append_left (by omega)] at this
  · cases j with
    | inl k =>
      simp only [w]; split
      · exact p.nd _
      · split
        · exact p.nd _
        · exact List.nodup_nil
    | inr k =>
      simp only [w]; split
      · exact p.nd _
      · exact List.nodup_nil
  · obtain ⟨i', hi', ci⟩ := key i a hi
    obtain ⟨j', hj', cj⟩ := key j a hj
    have e := p.ap i' j' a hi' hj'
    subst e
    rcases ci with ⟨k, rfl, hk, rfl⟩ | ⟨rfl, rfl⟩ | ⟨k, rfl, hk, rfl⟩ <;> rcases cj with ⟨k2, rfl, hk2, e2⟩ | ⟨rfl, e2⟩ | ⟨k2, rfl, hk2, e2⟩
    · cases e2; rfl
    · cases e2
    · cases e2
    · cases e2
    · rfl
    · cases e2; omega
    · cases e2
    · cases e2; omega
    · cases e2; rfl
  · obtain ⟨i', hi', _⟩ := key i a hi
    exact p.sub _ a hi'
/-! ### {k: e, ..} -/
def evPrs : List ((En → Out D) × (En → Out D)) → En → Out (List (Key × D))
  | [], ρ => .ok [] ρ
  | (fk, fv) :: ps, ρ => (fk ρ).bind fun k ρ1 => (fv ρ1).bind fun x ρ2 => match keyD k with
    | some q => (evPrs ps ρ2).bind fun r ρ3 => .ok ((q, x) :: r) ρ3
    | none => .no
def evDisp (ps : List ((En → Out D) × (En → Out D))) : En → Out D := fun ρ => (evPrs ps ρ).bind fun r ρ' => if (r.map (·.1)).Nodup ∧ r.length ≤ 15 then .ok (.dk true (r.map (·.1)) (r.map (·.2))) ρ' else .no
/-- the pairs' values on the pile -/
def keyE : Key → D
  | .inl i => .int i
  | .inr s => .str s
def prT : List (Key × D) → List (V × V) → Tm
  | (q, x) :: r, (k, v) :: ws => (keyE q, k) :: (x, v) :: prT r ws
  | _, _ => []
inductive EP (X : Cx) (B : Bs) (pos : Pos) : List (Option Expr) → List Expr → List ((En → Out D) × (En → Out D)) → Prop
  | nil : EP X B pos [] [] []
  | cons {k v : Expr} {ks : List (Option Expr)} {vs : List Expr} {fk fv : En → Out D} {ps : List ((En → Out D) × (En → Out D))} (hk : PE X k (cE B fk)) (hv : PE X v (cE B fv)) (r : EP X B pos ks vs ps) : EP X B pos (some k :: ks) (v :: vs) ((fk, fv) :: ps)
theorem EP.run {ks : List (Option Expr)} {vs : List Expr} {ps : List ((En → Out D) × (En → Out D))} (h : EP X B pos ks vs ps) : PPs X pos ks vs (ps.map fun p => (cE B p.1, cE B p.2)) := by
  induction h with
  | nil => exact pps_nil
  | cons hk hv r ih => exact pps_cons hk hv ih
theorem prs_run {ps : List ((En → Out D) × (En → Out D))} : ∀ {T : Tm} {ρ : En} {σ : L2.St} {H : Hp} {F : List Addr} {K : List (V × V) → Hp → Prop}, R B T ρ σ H F →
    (evPrs ps ρ).wp (fun r ρ' => ∀ ws H' F', R B (T ++ prT r ws) ρ' σ H' F' → r.length = ws.length → (∀ p ∈ r.zip ws, p.2.1 = kV p.1.1) → K ws H') (exQ B T σ) → tPairs (ps.map fun p => (cE B p.1, cE B p.2)) σ H K := by
  induction ps with
  | nil => intro T ρ σ H F K r q; exact q [] H F (by simpa [prT] using r) rfl (fun p hp => by simp at hp)
  | cons p ps ih =>
    obtain ⟨fk, fv⟩ := p
    intro T ρ σ H F K r q
    refine ⟨T, ρ, F, r, Out.wp_mono (Out.wp_bind q) (fun k ρ1 q v H1 F1 r1 => ?_) fun _ _ z => z⟩
    refine ⟨T ++ [(k, v)], ρ1, F1, r1, Out.wp_mono (Out.wp_bind q) (fun x ρ2 q w H2 F2 r2 => ?_) fun x ρ2 z cls dd H F xr r => z cls dd H F xr r.drop⟩
    split at q
    · rename_i q0 ek
      have ed : k = keyE q0 := by
        cases k <;> simp [keyD] at ek <;> subst ek <;> rfl
      obtain ⟨_, rk⟩ := top_rp r2.drop1
      have hkv := keyD_rp rk.1 ek
      refine ih (T := T ++ [(k, v)] ++ [(x, w)]) r2 (Out.wp_mono (Out.wp_bind q) (fun r ρ3 q ws H3 F3 r3 hl hz => ?_) fun x' ρ3 z cls dd H F xr r => z cls dd H F xr r.drop.drop)
      refine q ((v, w) :: ws) H3 F3 ?_ (by simp [hl]) (fun p hp => ?_)
      · rw [prT, ← ed]
        simpa using r3
      · rw [List.zip_cons_cons] at hp
        rcases List.mem_cons.mp hp with rfl | hp
        · exact hkv
        · exact hz p hp
    · exact q.elim
theorem RpL.prT {S : Gs} {H Hs : Hp} : ∀ {r : List (Key × D)} {ws : List (V × V)} {G : List Addr}, r.length = ws.length → RpL S H Hs ((prT r ws).map (·.1)) ((prT r ws).map (·.2)) G → RpL S H Hs (r.map (·.2)) (ws.map (·.2)) G
  | [], [], G, _, h => h
  | [], _ :: _, G, e, _ => by simp at e
  | _ :: _, [], G, e, _ => by simp at e
  | (q, x) :: r, (k, v) :: ws, G, e, h => by
    rw [Fw.prT, List.map_cons, List.map_cons, List.map_cons, List.map_cons] at h
    generalize ea : keyE q = qd at h
    cases h with
    | cons h1 h2 =>
      cases h2 with
      | cons h3 h4 =>
        have e1 : Fw.shr qd = true := by subst ea; cases q <;> simp [keyE, Fw.shr]
        rw [h1.shr e1, List.nil_append]
        exact .cons h3 (RpL.prT (by simpa using e) h4)
theorem mergeK_nodup : ∀ {kvs acc : List (Key × V)}, ((acc ++ kvs).map (·.1)).Nodup → mergeK acc kvs = acc ++ kvs
  | [], acc, _ => by simp [mergeK]
  | (k, v) :: kvs, acc, h => by
    have e : putK acc k v = acc ++ [(k, v)] := by
      unfold putK
      rw [if_neg]
      intro z
      obtain ⟨p, hp, e⟩ := List.any_eq_true.mp z
      have e := of_decide_eq_true e
      rw [List.map_append, List.nodup_append] at h
      exact h.2.2 p.1 (List.mem_map_of_mem hp) k (by simp) e
    show mergeK (putK acc k v) kvs = _
    rw [e, mergeK_nodup (by simpa using h)]
    simp
theorem ev_disp {keys : List (Option Expr)} {values : List Expr} {ps : List ((En → Out D) × (En → Out D))} (h : EP X B pos keys values ps) (hall : keys.all (·.isSome) = true := by rfl) (hl : keys.length = values.length := by rfl) (h0 : keys ≠ [] := by simp)
    (h15 : keys.length ≤ 15 := by decide) : PE X (.Dict keys values pos) (cE B (evDisp ps)) :=
  (pe_disp h.run hall hl h0 h15).imp fun σ H Q ⟨T, ρ, F, r, q⟩ => by
    intro p hp
    have r0 : R B (T ++ [(.dk true [] [], .ref p)]) ρ σ (upd H p (.dK [])) (p :: F) := r.newK rfl .nil hp
    refine prs_run r0 (Out.wp_mono (Out.wp_bind q) (fun rr ρ' q ws H2 F2 r2 hlen hz => ?_) fun x ρ2 z cls dd H F xr r => z cls dd H F xr r.drop)
    split at q
    · rename_i hnd
      have ru := R.unpile (T := T) (ts := prT rr ws) r2
      obtain ⟨Hs, G, hs, rp, nG⟩ := (R.drop r2 : R B (T ++ [(.dk true [] [], .ref p)]) ρ' σ H2 F2).topRp
      have hp2 : H2 p = some (.dK []) := by
        generalize ek : ([] : List Key) = ks at rp
        cases rp with
        | @dkO a kvs ds F0 ha rl =>
          have : kvs = [] := List.map_eq_nil_iff.mp ek.symm
          subst this
          exact ha
      obtain ⟨kvs, hk1, hk2, hk3⟩ : ∃ kvs : List (Key × V), ws = kvs.map (fun kv => (kV kv.1, kv.2)) ∧ kvs.map (·.1) = rr.map (·.1) ∧ kvs.map (·.2) = ws.map (·.2) := by
        clear ru r2 q
        induction rr generalizing ws with
        | nil =>
          cases ws with
          | nil => exact ⟨[], rfl, rfl, rfl⟩
          | cons _ _ => simp at hlen
        | cons x rr ih =>
          cases ws with
          | nil => simp at hlen
          | cons w ws =>
            obtain ⟨kvs, e1, e2, e3⟩ := ih ws (by simpa using hlen) (fun p hp => hz p (by rw [List.zip_cons_cons]; exact List.mem_cons_of_mem _ hp)) ⟨(List.nodup_cons.mp (by simpa using hnd.1)).2, by have := hnd.2; simp at this; omega⟩
            refine ⟨(x.1, w.2) :: kvs, ?_, by simp [e2], by simp [e3]⟩
            have := hz (x, w) (by rw [List.zip_cons_cons]; exact List.mem_cons_self)
            rw [List.map_cons, ← e1]
            congr 1
            exact Prod.ext this rfl
      refine ⟨hp2, kvs, hk1, ?_, ?_⟩
      · have := congrArg List.length hk2
        simp at this
        rw [this]; exact hnd.2
      · have hmg : mergeK [] kvs = kvs := mergeK_nodup (by rw [List.nil_append, hk2]; exact hnd.1)
        rw [hmg]
        have ev : (σ ++ [some (V.ref p)])[ρ'.vs.length]? = some (some (.ref p)) := by rw [← r2.len]; simp
        have rm := ru.mut (i := ρ'.vs.length) (d := .dk true [] []) (d' := .dk true (rr.map (·.1)) (rr.map (·.2))) (a := p) (o := .dK kvs) (by simp) ev (fun {Hs G Gt} hs rg rt nG nGt cr => by
          have rv := RpL.prT hlen rt
          generalize ek : ([] : List Key) = ks0 at rg
          cases rg with
          | @dkO a kvs0 ds F0 ha rl0 =>
            have hpG : p ∉ Gt := cr p List.mem_cons_self
            refine ⟨p :: Gt, fun x hx => ?_, List.nodup_cons.mpr ⟨hpG, nGt⟩, List.mem_cons_self, fun {H'} ha' k => ?_⟩
            · rcases List.mem_cons.mp hx with rfl | hx
              · exact .inl List.mem_cons_self
              · exact .inr hx
            · rw [← hk2]
              refine .dkO ha' ?_
              rw [hk3]
              exact rv.mono (fun x hx u e => k x u (by rintro rfl; exact hpG hx) e) fun _ _ z => z) (by intro us e; rcases e with e | e <;> cases e)
        rw [show (ρ'.vs ++ [Sv.ow (D.dk true [] [])]).set ρ'.vs.length (.ow (.dk true (rr.map (·.1)) (rr.map (·.2)))) = ρ'.vs ++ [.ow (.dk true (rr.map (·.1)) (rr.map (·.2)))] by simp] at rm
        exact q _ _ _ (rm.repile r2.len fun i a q => (List.getElem?_eq_some_iff.mp (r2.pin i a q)).1)
    · exact q.elim
end
end Fw

/- part FwO -/
namespace Fw
open PySem PySem.Spec PyProof.Rows L2
section
variable {X : Cx} {B : Bs} {T ts : Tm} {ρ : En} {σ : L2.St} {H : Hp} {F : List Addr} {d : D} {v : V} {pos pos' : Pos} {e iter : Expr} {t : D → En → Option En} {fe : En → Out D}
/-! ### [elt for x in xs], xs an own list that stays its own -/
theorem R.putBack {i : Nat} (h : R B (T ++ [(d, v)] ++ ts) ρ σ H F) (ei : ρ.vs[i]? = some .no) (ev : σ[i]? = some (some v)) : R B (T ++ ts) { ρ with vs := ρ.vs.set i (.ow d) } σ H F := by
  obtain ⟨fp, p⟩ := h.pt
  have hl := h.len
  let w : Ix → Ix := fun j => match j with
    | .inl j => if j < T.length then .inl j else .inl (j + 1)
    | .inr k => if k = i then .inl T.length else .inr k
  have winj : ∀ i j, w i = w j → i = j := by
    intro i j e
    cases i <;> cases j <;> simp only [w] at e <;> split at e <;> split at e <;> first | (cases e; done) | (injection e with e; congr 1 <;> omega) | (congr 1 <;> omega)
  refine { len := by simp [hl], pin := h.pin, pt := ⟨fun j => fp (w j), ⟨fun j d' v' e => ?_, fun k s e => ?_, fun j => p.nd _, fun i j a hi hj => winj _ _ (p.ap _ _ a hi hj), fun i a hi => p.sub _ a hi⟩⟩, dj := h.dj, sM := h.sM, md := h.md, st := h.st, ext := h.ext, new := h.new, hl := h.hl, own := h.own }
  · by_cases hj : j < T.length
    · simp only [w, if_pos hj]
      refine p.tm j d' v' ?_
      rw [List.getElem?_append_left hj] at e
      rw [List.append_assoc, List.getElem?_append_left hj]; exact e
    · simp only [w, if_neg hj]
      refine p.tm (j + 1) d' v' ?_
      rw [List.getElem?_append_right (by omega)] at e
      rw [List.getElem?_append_right (by simp; omega)]
      rw [show j + 1 - (T ++ [(d, v)]).length = j - T.length by simp]; exact e
  · rcases getElem?_set' e with ⟨rfl, rfl⟩ | ⟨nj, e⟩
    · simp only [w, if_pos rfl]
      exact ⟨v, ev, p.tm T.length d v (by simp)⟩
    · have nk : k ≠ i := fun z => nj z.symm
      simp only [w, if_neg nk]
      exact p.sl k s e
/-- what is walked: the own list at i, or the value of it -/
def cIO (B : Bs) (K : PySem.W.Frag) (i : Nat) : TI := fun σ H Rr => (∃ T ρ F xs a, R B T ρ σ H F ∧ ρ.vs[i]? = some (.ow (.lst true xs)) ∧ shrL xs = true ∧ σ[i]? = some (some (.ref a)) ∧ Rr (Itl K a) H) ∨ cI B (itSeq (evVar i)) σ H Rr
theorem own_lst' {i : Nat} {ds : List D} (r : R B T ρ σ H F) (e : ρ.vs[i]? = some (.ow (.lst true ds))) : ∃ a vs, σ[i]? = some (some (.ref a)) ∧ H a = some (.lst vs) ∧ ds.length = vs.length := by
  obtain ⟨fp, p⟩ := r.pt
  obtain ⟨v', ev', r⟩ := (show RpV _ _ _ (.ow (.lst true ds)) _ _ from p.sl i _ e)
  generalize fp (.inr i) = G0 at r
  cases r with
  | lstO h r => exact ⟨_, _, ev', h, r.length⟩
theorem ei_own {i : Nat} {tg : Expr} (h : PE X e (tVar i)) : PI X tg e (cIO B X.K i) := by
  have h2 : PI X tg e (cI B (itSeq (evVar i))) := ei_seq (ev_var h)
  refine ⟨fun pins s σ H Rr I q => ?_⟩
  rcases q with q | q
  · refine (pi_seq (tg := tg) h).run pins s σ H Rr I ?_
    obtain ⟨T, ρ, F, xs, a, r, e1, e2, e3, q⟩ := q
    obtain ⟨a', vs, e4, ha, _⟩ := own_lst' r e1
    rw [e3] at e4; cases e4
    exact ⟨_, e3, a, rfl, .inl ⟨⟨vs, SqL.of ha⟩, q⟩⟩
  · exact h2.run pins s σ H Rr I q
def evLcO (i : Nat) (t : D → En → Option En) (c : En → Out Bool) (elt : En → Out D) (own : List Nat) : En → Out D := fun ρ => match ρ.vs[i]? with
  | some (.ow (.lst true xs)) => if shrL xs = true then (lcL t c elt own xs { ρ with vs := fgt (ρ.vs.set i .no) own }).bind fun ys ρ2 => match ρ2.vs[i]? with
      | some .no => .ok (.lst true ys) { ρ2 with vs := ρ2.vs.set i (.ow (.lst true xs)) }
      | _ => .no
    else evLc (itSeq (evVar i)) t c elt own ρ
  | _ => evLc (itSeq (evVar i)) t c elt own ρ
theorem lc_runO {K : PySem.W.Frag} {i : Nat} {c : En → Out Bool} {elt : En → Out D} {own : List Nat} (hfr : B.free own = true) {Q : VK} {tt : TT} {te : TE}
    (htt : ∀ σ H Q, cT B.mute c σ H Q → tt σ H Q) (hte : ∀ σ H Q, cE B.mute elt σ H Q → te σ H Q) (gt : TG)
    (hgg : ∀ (T : Tm) (ρ : En) (F : List Addr) (d : D) (ρ' : En) (v : V) (σ : L2.St) (H : Hp) (Q : L2.St → Hp → Prop), R B (T ++ [(d, v)]) ρ (wipe σ own) H F → t d ρ = some ρ' → (∀ σ' H' F', R B T ρ' σ' H' F' → wipe σ' own = wipe σ own → Q σ' H') → gt v (wipe σ own) H Q)
    (h : cE B (evLcO i t c elt own) σ H Q) : tLc (cIO B K i) gt tt te own σ H Q := by
  have alt : cE B (evLc (itSeq (evVar i)) t c elt own) σ H Q → tLc (cIO B K i) gt tt te own σ H Q := fun z => .inr (lc_run hfr htt hte gt hgg z)
  obtain ⟨T, ρ, F, r, q⟩ := h
  unfold evLcO at q
  split at q
  · rename_i xs e1
    split at q
    · rename_i e2
      obtain ⟨v, ev, r1⟩ := r.take e1
      obtain ⟨a, vs, ev', ha, hl⟩ := own_lst' r e1
      rw [ev] at ev'; cases ev'
      refine .inl ⟨T, ρ, F, xs, a, r, e1, e2, ev, fun A hA => ?_⟩
      refine lc_mid hfr htt hte gt hgg r1 (itok_list (show seqOf (.lst true xs) = some (true, xs) from if_pos e2) (by rw [hl]; exact r.hl _ _ (.inl ha))) (fun (ds : List D) ρ2 => ρ2.vs[i]? = some .no ∧ ∀ v H' F', R B (T ++ [(D.lst true ds, v)]) { ρ2 with vs := ρ2.vs.set i (.ow (.lst true xs)) } σ H' F' → Q v H') (fun ds ρ2 v H' F' q r => q.2 v H' F' (r.putBack q.1 ev)) (Out.wp_mono (Out.wp_bind q) (fun ys ρ2 q => ?_) fun _ _ z => z) A hA
      split at q
      · rename_i e3
        exact ⟨e3, q⟩
      · exact q.elim
    · exact alt ⟨T, ρ, F, r, q⟩
  · exact alt ⟨T, ρ, F, r, q⟩
variable {elt : Expr} {ifs : List Expr} {scope : Scope} {own : List (Str × Nat)} {fc : En → Out Bool}
theorem ev_lcNO {i i0 : Nat} {x : Str} {px : Pos} {tt : TT} (hc : X.calm = true) (hN : X.N.Nodup) (hi : PE X iter (tVar i0)) (ok : BlkOk X.N X.env.scope scope own) (hio : i ∈ own.map (·.2))
    (hg : ∀ (s : Shared) (H : Hp) (C : Addr) (cl : List (Str × Addr)) (fp : List Addr), PG (X.blk s H scope (compEnvC scope cl C X.env) fp) (.Name x px) (gName i))
    (ht : ∀ (s : Shared) (H : Hp) (C : Addr) (cl : List (Str × Addr)) (fp : List Addr), PTs (X.blk s H scope (compEnvC scope cl C X.env) fp) ifs tt) (hti : ∀ σ H Q, cT B.mute fc σ H Q → tt σ H Q)
    (he : ∀ (s : Shared) (H : Hp) (C : Addr) (cl : List (Str × Addr)) (fp : List Addr), PE (X.blk s H scope (compEnvC scope cl C X.env) fp) elt (cE B.mute fe)) (hs : ∀ x, foldedSetIterable iter X.env x = pure x := by intro _; rfl) (hme : B.free (own.map (·.2)) = true := by rfl) :
    PE X (.ListComp elt [⟨.Name x px, iter, ifs, 0⟩] scope pos) (cE B (evLcO i0 (tgN i) fc fe (own.map (·.2)))) :=
  (pe_lc (g := gName i) hc hN (ei_own (B := B) hi) ok hg ht he hs).imp fun σ H Q h => lc_runO hme hti (fun _ _ _ z => z) _ (gg_name hme hio) h
theorem ev_lcTO {is : List Nat} {i0 : Nat} {es : List Expr} {k : Nat} {px : Pos} {tt : TT} (hc : X.calm = true) (hN : X.N.Nodup) (hi : PE X iter (tVar i0)) (ok : BlkOk X.N X.env.scope scope own) (hio : ∀ i ∈ is, i ∈ own.map (·.2))
    (hg : ∀ (s : Shared) (H : Hp) (C : Addr) (cl : List (Str × Addr)) (fp : List Addr), PG (X.blk s H scope (compEnvC scope cl C X.env) fp) (.Tuple es k px) (gTupN X.K is))
    (ht : ∀ (s : Shared) (H : Hp) (C : Addr) (cl : List (Str × Addr)) (fp : List Addr), PTs (X.blk s H scope (compEnvC scope cl C X.env) fp) ifs tt) (hti : ∀ σ H Q, cT B.mute fc σ H Q → tt σ H Q)
    (he : ∀ (s : Shared) (H : Hp) (C : Addr) (cl : List (Str × Addr)) (fp : List Addr), PE (X.blk s H scope (compEnvC scope cl C X.env) fp) elt (cE B.mute fe)) (hs : ∀ x, foldedSetIterable iter X.env x = pure x := by intro _; rfl) (hme : B.free (own.map (·.2)) = true := by rfl) :
    PE X (.ListComp elt [⟨.Tuple es k px, iter, ifs, 0⟩] scope pos) (cE B (evLcO i0 (tgT is) fc fe (own.map (·.2)))) :=
  (pe_lc (g := gTupN X.K is) hc hN (ei_own (B := B) hi) ok hg ht he hs).imp fun σ H Q h => lc_runO hme hti (fun _ _ _ z => z) _ (gg_tup hme hio) h
theorem es_setLcNO {j : Nat} {y : Str} {py spos : Pos} {i i0 : Nat} {x : Str} {px : Pos} {tt : TT} (hc : X.calm = true) (hN : X.N.Nodup) (hy : X.N[j]? = some y) (hyl : X.env.scope.names.lookup y = some .local)
    (hsw : swapsWith (.ListComp elt [⟨.Name x px, iter, ifs, 0⟩] scope pos) (some (.Name y py)) spos.line X.env = pure true) (hi : PE X iter (tVar i0)) (ok : BlkOk X.N X.env.scope scope own) (hio : i ∈ own.map (·.2))
    (hg : ∀ (s : Shared) (H : Hp) (C : Addr) (cl : List (Str × Addr)) (fp : List Addr), PG (X.blk s H scope (compEnvC scope cl C X.env) fp) (.Name x px) (gName i))
    (ht : ∀ (s : Shared) (H : Hp) (C : Addr) (cl : List (Str × Addr)) (fp : List Addr), PTs (X.blk s H scope (compEnvC scope cl C X.env) fp) ifs tt) (hti : ∀ σ H Q, cT B.mute fc σ H Q → tt σ H Q)
    (he : ∀ (s : Shared) (H : Hp) (C : Addr) (cl : List (Str × Addr)) (fp : List Addr), PE (X.blk s H scope (compEnvC scope cl C X.env) fp) elt (cE B.mute fe)) (hs : ∀ x, foldedSetIterable iter X.env x = pure x := by intro _; rfl) (hme : B.free (own.map (·.2)) = true := by rfl) (hmj : B.free [j] = true := by rfl) :
    PS X (.Assign [.Name y py] (.ListComp elt [⟨.Name x px, iter, ifs, 0⟩] scope pos) spos) (cS B (sAs j (evLcO i0 (tgN i) fc fe (own.map (·.2))))) :=
  es_as (ps_setLc (g := gName i) hc hN hy hyl hsw (ei_own (B := B) hi) ok hg ht he hs) (fun σ H Q h => lc_runO hme hti (fun _ _ _ z => z) _ (gg_name hme hio) h) hmj
theorem es_setLcTO {j : Nat} {y : Str} {py spos : Pos} {is : List Nat} {i0 : Nat} {es : List Expr} {k : Nat} {px : Pos} {tt : TT} (hc : X.calm = true) (hN : X.N.Nodup) (hy : X.N[j]? = some y) (hyl : X.env.scope.names.lookup y = some .local)
    (hsw : swapsWith (.ListComp elt [⟨.Tuple es k px, iter, ifs, 0⟩] scope pos) (some (.Name y py)) spos.line X.env = pure true) (hi : PE X iter (tVar i0)) (ok : BlkOk X.N X.env.scope scope own) (hio : ∀ i ∈ is, i ∈ own.map (·.2))
    (hg : ∀ (s : Shared) (H : Hp) (C : Addr) (cl : List (Str × Addr)) (fp : List Addr), PG (X.blk s H scope (compEnvC scope cl C X.env) fp) (.Tuple es k px) (gTupN X.K is))
    (ht : ∀ (s : Shared) (H : Hp) (C : Addr) (cl : List (Str × Addr)) (fp : List Addr), PTs (X.blk s H scope (compEnvC scope cl C X.env) fp) ifs tt) (hti : ∀ σ H Q, cT B.mute fc σ H Q → tt σ H Q)
    (he : ∀ (s : Shared) (H : Hp) (C : Addr) (cl : List (Str × Addr)) (fp : List Addr), PE (X.blk s H scope (compEnvC scope cl C X.env) fp) elt (cE B.mute fe)) (hs : ∀ x, foldedSetIterable iter X.env x = pure x := by intro _; rfl) (hme : B.free (own.map (·.2)) = true := by rfl) (hmj : B.free [j] = true := by rfl) :
    PS X (.Assign [.Name y py] (.ListComp elt [⟨.Tuple es k px, iter, ifs, 0⟩] scope pos) spos) (cS B (sAs j (evLcO i0 (tgT is) fc fe (own.map (·.2))))) :=
  es_as (ps_setLc (g := gTupN X.K is) hc hN hy hyl hsw (ei_own (B := B) hi) ok hg ht he hs) (fun σ H Q h => lc_runO hme hti (fun _ _ _ z => z) _ (gg_tup hme hio) h) hmj
end
end Fw

/- part FwP -/
namespace Fw
open PySem PySem.Spec PyProof.Rows L2
/-! ### enumerate(t), t a tuple -/
open AutoSeq1 (wpAny_loadPart') in
theorem meets_enT (l : Addr) (items : Array Value) (n : Nat) (dct : Option Addr) (sl : Array (Option Value)) :
    Meets (Builtin.«enumerate.__new__» ⟨[.type "enumerate", .ref l], []⟩) (fun _ R s => s.heap.get? l = some { cls := .type "tuple", dict := dct, data := .seq items n, slots := sl } ∧
      R (.ok (.ret (.ref (s.heap.push { cls := .type "tuple_iterator", data := .fields #[.ref l, .int 0 0] }).objs.size)))
        { s with heap := (s.heap.push { cls := .type "tuple_iterator", data := .fields #[.ref l, .int 0 0] }).push { cls := .type "enumerate", data := .fields #[.none, .bool false, .ref s.heap.objs.size, rawInt 0, .none, .none] } }) :=
  .of_wp fun prog w A R s h => by
    obtain ⟨hp, g, d, tk, os⟩ := s
    obtain ⟨hl, h⟩ := h
    have sub := sub_enumerate
    have isT : Heap.IsTuple (Shared.heap ⟨hp, g, d, tk, os⟩) l items := ⟨_, hl, rfl, n, rfl⟩
    wp_walk using wpAny_loadPart' hl
    refine wpAny_stack_any fun st => wpAny_pure ?_
    split
    · rename_i c _ _ _ _ _
      cases (c == Value.type "enumerate") <;> (wp_walk using wpAny_loadPart' hl, wpAny_pyIter_tuple isT; exact ⟨_, rfl, h⟩)
    · wp_walk using wpAny_loadPart' hl, wpAny_pyIter_tuple isT
      exact ⟨_, rfl, h⟩
section
variable {P : Program} {w : World} {A : Around} {E : Value → Shared → Prop} {s : Shared}
theorem call_enT {l : Addr} {items : Array Value} {Q : Value → Shared → Prop} (ht : s.heap.IsTuple l items)
    (k : ∀ g : Heap, IsEnum g (s.heap.objs.size + 1) s.heap.objs.size 0 .none → g.IsTupleIter s.heap.objs.size l 0 → (∀ b o, s.heap.get? b = some o → g.get? b = some o) → Q (.ref (s.heap.objs.size + 1)) { s with heap := g }) :
    wpAny (model P w) A (call (.type "enumerate") [.ref l]) Q E s := by
  obtain ⟨⟨c, dct, dt, sl⟩, hl, ec, n, ed⟩ := ht
  dsimp only at ec ed
  subst ec
  subst ed
  refine callType_new F.called_enumerate (by decide) (F.typeCall_enumerate_1 _) (F.newCall_enumerate_1 _) (fun obj => F.args_object_init_2 obj _) F.entry_enumerate_new (meets_enT l items n dct sl) ⟨hl, ?_⟩
  have z1 : (s.heap.push { cls := .type "tuple_iterator", data := .fields #[.ref l, .int 0 0] }).objs.size = s.heap.objs.size + 1 := Heap.size_push ..
  show _ ∧ _
  rw [z1]
  have en : IsEnum ((s.heap.push { cls := .type "tuple_iterator", data := .fields #[.ref l, .int 0 0] }).push { cls := .type "enumerate", data := .fields #[.none, .bool false, .ref s.heap.objs.size, rawInt 0, .none, .none] }) (s.heap.objs.size + 1) s.heap.objs.size 0 .none := by
    have z2 := Heap.get?_push_size (s.heap.push { cls := .type "tuple_iterator", data := .fields #[.ref l, .int 0 0] }) (o := { cls := .type "enumerate", data := .fields #[.none, .bool false, .ref s.heap.objs.size, rawInt 0, .none, .none] }) rfl
    rwa [z1] at z2
  exact ⟨⟨_, en, rfl⟩, k _ en ⟨_, Heap.get?_push_of_some _ (Heap.get?_push_size _ rfl), rfl, rfl⟩ fun b o x => Heap.get?_push_of_some _ (Heap.get?_push_of_some _ x)⟩
end
/-- the tuple at a, each item in a new pair -/
def ItTe (K : PySem.W.Frag) (a : Addr) : It :=
  ⟨fun i H => ∃ (xs : List V) (x : V), SqT K H a xs ∧ xs[i]? = some x, fun i H v H' => ∃ T x, v = .ref T ∧ H T = none ∧ H' = upd H T (.tup [.int (i : Nat), x]) ∧ ∀ xs, SqT K H a xs → xs[i]? = some x, fun i H => ∃ xs : List V, SqT K H a xs ∧ xs.length ≤ i⟩
theorem turn_enT {P : Program} {w : World} {K : PySem.W.Frag} {elts : List Expr} {kk : Nat} {tpos : Pos} (a e it : Addr) :
    Turn P w K (.Tuple elts kk tpos) (ItTe K a) [e, it] e (fun i h => (∃ old, IsEnum h e it ((i : Nat) : Int) old) ∧ h.IsTupleIter it a i ∧ e ≠ it ∧ a ≠ it ∧ e ≠ a) where
  mem := by simp
  obj := fun i h ⟨⟨old, he⟩, ⟨o, ho, _, hd⟩, _⟩ b hb => by
    rcases (show b = e ∨ b = it by simpa using hb) with rfl | rfl
    · exact ⟨_, he, fun v q => nomatch q⟩
    · exact ⟨o, ho, fun v q => by rw [hd] at q; cases q⟩
  keep := fun i h h' ⟨⟨old, he⟩, hi, ne⟩ k => ⟨⟨old, k e (by simp) _ he⟩, hi.at fun o q => k it (by simp) o q, ne⟩
  item := by
    intro X hP hw hK hc i pins s σ H E I hf ⟨⟨old, he⟩, hit, n1, n2, n3⟩ ⟨xs, x, hq, hx⟩
    subst hP hw hK
    obtain ⟨its, rv, p, hz⟩ := I.tuple hq
    obtain ⟨u, hu, ru⟩ := rv.get hx
    have lt1 : e < s.heap.objs.size := Heap.lt_size he
    have lt2 : it < s.heap.objs.size := by obtain ⟨_, q, _⟩ := hit; exact Heap.lt_size q
    have hi : i < its.toArray.size := by rw [List.size_toArray]; exact (List.getElem?_eq_some_iff.mp hu).1
    refine wpAny_pyNext_enum_itemD (Draws.tuple (A := X.A.in1) (I.ok.hd hc) it a n2 its.toArray) he ⟨hit, p⟩ hi n1 (by simp [n1, n3]) fun y h' tk hy ho ⟨hit', p'⟩ hT hsz hk => ?_
    have ey : y = u := by
      have h1 : its[i]? = some y := by simpa using hy
      rw [hu] at h1; exact (Option.some.inj h1).symm
    subst ey
    refine ⟨_, rfl, wpAny_letOwnedTupleGo_enum (s := { s with heap := h', toks := tk + 1 }) ho fun h'' he' sb => ?_⟩
    have hT2 : h''.get? s.heap.objs.size = some { cls := .type "tuple", data := .seq #[.int i tk, y] } := (sb.2 _ (Nat.ne_of_gt lt1)).trans hT
    have new : ObjOk X.prog X.w (upd H s.heap.objs.size (.tup [.int (i : Nat), x])) h'' s.heap.objs.size (.tup [.int (i : Nat), x]) :=
      ⟨by show 2 ≤ sizeLine; decide, [.int i tk, y], .cons ⟨_, rfl⟩ (.cons ru .nil), ⟨_, hT2, rfl, _, rfl⟩⟩
    have J : Inv X pins σ (upd H s.heap.objs.size (.tup [.int (i : Nat), x])) { s with heap := h'', toks := tk + 1 } :=
      I.turnedNew (ch := [e, it]) (fun b ob hb q => (sb.2 b fun z => hb (by simp [z])).trans (hk b ob (fun z => hb (by simp [z])) (fun z => hb (by simp [z])) q)) hf (Nat.le_refl _) new
    refine ⟨.ref s.heap.objs.size, _, J, rfl, ⟨_, x, rfl, I.hok.fresh (Nat.le_refl _), rfl, fun ys hy => by rw [I.tuple_inj hy hq]; exact hx⟩, ⟨⟨y, ?_⟩, hit'.at fun o q => (sb.2 it (Ne.symm n1)).trans q, n1, n2, n3⟩, fun b hb => ?_⟩
    · rw [show ((i + 1 : Nat) : Int) = (i : Int) + 1 by omega]; exact he'
    · have lt : b < s.heap.objs.size := by
        rcases (show b = e ∨ b = it by simpa using hb) with z | z
        · rw [z]; exact lt1
        · rw [z]; exact lt2
      rw [upd_ne (Nat.ne_of_lt lt)]
      exact (hf b hb).1
  done := by
    intro X hP hw hK hc i pins s σ H E I hf ⟨⟨old, he⟩, hit, n1, n2, n3⟩ ⟨xs, hq, hx⟩
    subst hP hw hK
    obtain ⟨its, rv, p, hz⟩ := I.tuple hq
    obtain ⟨f0, f1, f2, f3, f4, f5⟩ := hf it (by simp)
    have hl := rv.length
    have hT : s.TypeIs (.ref e) "enumerate" := ⟨_, he, rfl⟩
    unfold pyNext
    refine wpAny_bind (wpAny_attempt (wpAny_callSpecial?_slot (name := Str.ofString "__next__") hT PySem.F.slot_enumerate_next
      (wpAny_call_entry PySem.F.slot_enumerate_next hT PySem.F.entry_enumerate_next (show wpAny _ _ (field (.ref e) 2 >>= _) _ _ _ from wpAny_bind (wpAny_field he rfl (x := .ref it) rfl (wpAny_bind (wpAny_nextOf_tuple_end (I.ok.hd hc) hit p (by simp; omega) fun h' y he' hy => ?_)))) (PySem.F.args_enumerate_next_1 _))))
    obtain ⟨o, ho, hc'⟩ := hy
    refine wpAny_bind (wpAny_isInstance (T := "StopIteration") (b := true) ⟨o, ho, hc'⟩ isSubtype_stop (wpAny_pure ⟨rfl, I.turned (t' := s.toks) (fun b o hb q => he' b o hb q) f0 f1 f3 f4 f5⟩))
  self := fun A i s Q E ⟨⟨_, he⟩, _⟩ h => wpAny_pyIter_enum he h
def iEnT (K : PySem.W.Frag) (ta : TA) : TI := fun σ H R => ta σ H fun vs H1 => ∃ a xs, vs = [.ref a] ∧ ((SqL K H1 a xs ∧ R (Ite K a) H1) ∨ (SqT K H1 a xs ∧ R (ItTe K a) H1))
theorem pi_enA {X : Cx} {e : Expr} {ta : TA} {p pos tpos : Pos} {elts : List Expr} {kk : Nat} (hg : Gl X "enumerate") (hm : X.mg "enumerate" = none) (ha : PA X [e] ta) (hs : starEach [e] X.env = [(false, eval e X.env)] := by rfl) :
    PI X (.Tuple elts kk tpos) (.Call (.Name "enumerate" p) [e] [] pos) (iEnT X.K ta) := by
  refine ⟨fun pins s σ H R I h => Call_ (ld_blt I hg hm boot_enumerate (PyProof.Rows.callWith_type1 (thn (ha.run pos pins s σ H _ I h) fun us s1 ⟨vs, H1, I1, r1, q1⟩ => ?_) hs rfl))⟩
  obtain ⟨a, xs, ex, hq⟩ := q1
  subst ex
  cases r1 with
  | cons r rr =>
    cases rr
    cases r
    have fp : ∀ b ∈ [s1.heap.objs.size + 1, s1.heap.objs.size], FpOk X pins H1 b := fun b hb => by
      have le : s1.heap.objs.size ≤ b := by
        rcases (show b = s1.heap.objs.size + 1 ∨ b = s1.heap.objs.size by simpa using hb) with z | z <;> omega
      exact I1.fpOk le (I1.hok.fresh le)
    rcases hq with ⟨hq, q⟩ | ⟨hq, q⟩
    · obtain ⟨its, rv, p', hz⟩ := I1.list hq
      refine call_enumerate_list p'.isList fun h' he hit hsz hk => wpAny_pyIter_enum he ?_
      exact ⟨s1.heap.objs.size + 1, _, _, _, H1, rfl, I1.kept (t' := s1.toks) hk, turn_enum a (s1.heap.objs.size + 1) s1.heap.objs.size, ⟨⟨.none, he⟩, hit, Nat.succ_ne_self _⟩, fp, q⟩
    · obtain ⟨its, rv, p', hz⟩ := I1.tuple hq
      have lt := p'.lt
      refine call_enT p' fun h' he hit hk => wpAny_pyIter_enum he ?_
      exact ⟨s1.heap.objs.size + 1, _, _, _, H1, rfl, I1.kept (t' := s1.toks) hk, turn_enT a (s1.heap.objs.size + 1) s1.heap.objs.size, ⟨⟨.none, he⟩, hit, Nat.succ_ne_self _, Nat.ne_of_lt lt, Nat.ne_of_gt (Nat.lt_succ_of_lt lt)⟩, fp, q⟩
section
variable {X : Cx} {B : Bs} {T ts : Tm} {ρ : En} {σ : L2.St} {H : Hp} {F : List Addr} {d : D} {v : V} {pos pos' p : Pos} {e : Expr} {f : En → Out D}
theorem itok_enT {K : PySem.W.Frag} {a : Addr} {xs : List D} (hd : seqOf d = some (false, xs)) (hz : xs.length ≤ sizeLine) : ItOk B (ItTe K a) (enD 0 xs) [(d, .ref a)] := by
  refine ⟨by rw [enD_len]; exact hz, fun T T2 ρ σ H F r i => ?_⟩
  obtain ⟨G, rb⟩ := r.nth (n := 0) rfl
  obtain ⟨a', vs, e, ha, rl⟩ := seqOf_tp rb hd
  cases e
  refine ⟨fun hi => ⟨vs, SqT.of ha, by rw [← rl.length]; rw [enD_len] at hi; exact hi⟩, fun d ed => ?_⟩
  obtain ⟨x, hx, rfl⟩ := enD_get _ _ _ _ ed
  obtain ⟨v, hv, rv⟩ := rl.get0 hx
  refine ⟨⟨vs, v, SqT.of ha, hv⟩, fun y H' ⟨t, z, ey, ht, eH, hz⟩ => ?_⟩
  subst ey; subst eH
  have ez := hz vs (SqT.of ha)
  rw [hv] at ez; cases ez
  rw [Nat.zero_add]
  exact ⟨F, pair_push r ht (.int _) rv⟩
def itEnA (f : En → Out D) : En → Out (List D) := fun ρ => (f ρ).bind fun d ρ' => match seqOf d with
  | some p => .ok (enD 0 p.2) ρ'
  | none => .no
theorem ei_enA {elts : List Expr} {kk : Nat} {tpos : Pos} (hg : Gl X "enumerate") (hm : X.mg "enumerate" = none) (h : PE X e (cE B f)) (hs : starEach [e] X.env = [(false, eval e X.env)] := by rfl) :
    PI X (.Tuple elts kk tpos) (.Call (.Name "enumerate" p) [e] [] pos) (cI B (itEnA f)) := by
  refine (pi_enA hg hm (pa_cons h pa_nil hs) hs).imp fun σ H Rr ⟨T, ρ, F, r, q⟩ => ?_
  refine ⟨T, ρ, F, r, Out.wp_mono (Out.wp_bind q) (fun d ρ' q v H' F' r' => ?_) fun _ _ z => z⟩
  split at q
  · rename_i pr e1
    obtain ⟨b, xs⟩ := pr
    obtain ⟨G, rb⟩ := top_rp r'
    cases b with
    | true =>
      obtain ⟨a, vs, rfl, ha, rl⟩ := seqOf_lst rb e1
      exact ⟨a, vs, rfl, .inl ⟨SqL.of ha, q _ H' F' [(d, .ref a)] r' (itok_enum e1 (by rw [rl.length]; exact r'.hl _ _ (.inl ha)))⟩⟩
    | false =>
      obtain ⟨a, vs, rfl, ha, rl⟩ := seqOf_tp rb e1
      exact ⟨a, vs, rfl, .inr ⟨SqT.of ha, q _ H' F' [(d, .ref a)] r' (itok_enT e1 (by rw [rl.length]; exact r'.hl _ _ (.inr ha)))⟩⟩
  · exact q.elim
end
end Fw

/- part FwQ -/
namespace Fw
open PySem PySem.Spec PyProof.Rows L2
section
variable {X : Cx} {B : Bs} {T ts : Tm} {ρ : En} {σ : L2.St} {H : Hp} {F : List Addr} {d : D} {v : V} {pos pos' p : Pos} {e tg : Expr} {f : En → Out D}
/-! ### reversed(xs) -/
theorem rev_get {xs : List D} {i : Nat} {d : D} (e : xs.reverse[i]? = some d) : i < xs.length ∧ xs[xs.length - 1 - i]? = some d := by
  have hi : i < xs.length := by simpa using (List.getElem?_eq_some_iff.mp e).1
  rw [List.getElem?_reverse hi] at e
  exact ⟨hi, e⟩
theorem itok_rev {K : PySem.W.Frag} {a : Addr} {xs : List D} {n : Nat} (hd : seqOf d = some (true, xs)) (hn : n = xs.length) (hz : xs.length ≤ sizeLine) : ItOk B (Itv K a n) xs.reverse [(d, .ref a)] := by
  refine ⟨by simpa using hz, fun T T2 ρ σ H F r i => ?_⟩
  obtain ⟨G, rb⟩ := r.nth (n := 0) rfl
  obtain ⟨a', vs, e, ha, rl⟩ := seqOf_lst rb hd
  cases e
  refine ⟨fun hi => (show n ≤ i by rw [hn]; simpa using hi), fun d ed => ?_⟩
  obtain ⟨hi, hx⟩ := rev_get ed
  obtain ⟨v, hv, rv⟩ := rl.get0 hx
  refine ⟨⟨by rw [hn]; exact hi, vs, v, SqL.of ha, by rw [hn]; exact hv⟩, fun y H' ⟨eH, hz⟩ => ?_⟩
  subst eH
  have ez := hz vs (SqL.of ha)
  rw [hn, hv] at ez; cases ez
  exact ⟨F, r.push rv⟩
theorem itok_revT {K : PySem.W.Frag} {a : Addr} {xs : List D} {n : Nat} (hd : seqOf d = some (false, xs)) (hn : n = xs.length) (hz : xs.length ≤ sizeLine) : ItOk B (RT.ItvT K a n) xs.reverse [(d, .ref a)] := by
  refine ⟨by simpa using hz, fun T T2 ρ σ H F r i => ?_⟩
  obtain ⟨G, rb⟩ := r.nth (n := 0) rfl
  obtain ⟨a', vs, e, ha, rl⟩ := seqOf_tp rb hd
  cases e
  refine ⟨fun hi => (show n ≤ i by rw [hn]; simpa using hi), fun d ed => ?_⟩
  obtain ⟨hi, hx⟩ := rev_get ed
  obtain ⟨v, hv, rv⟩ := rl.get0 hx
  refine ⟨⟨by rw [hn]; exact hi, vs, v, SqT.of ha, by rw [hn]; exact hv⟩, fun y H' ⟨eH, hz⟩ => ?_⟩
  subst eH
  have ez := hz vs (SqT.of ha)
  rw [hn, hv] at ez; cases ez
  exact ⟨F, r.push rv⟩
def itRev (f : En → Out D) : En → Out (List D) := fun ρ => (f ρ).bind fun d ρ' => match seqOf d with
  | some p => .ok p.2.reverse ρ'
  | none => .no
theorem ei_rev (hg : Gl X "reversed") (hm : X.mg "reversed" = none) (h : PE X e (cE B f)) (hs : starEach [e] X.env = (false, eval e X.env) :: starEach [] X.env := by rfl) :
    PI X tg (.Call (.Name "reversed" p) [e] [] pos) (cI B (itRev f)) := by
  refine (RT.pi_revA hg hm h hs).imp fun σ H Rr ⟨T, ρ, F, r, q⟩ => ?_
  refine ⟨T, ρ, F, r, Out.wp_mono (Out.wp_bind q) (fun d ρ' q v H' F' r' => ?_) fun _ _ z => z⟩
  split at q
  · rename_i pr e1
    obtain ⟨b, xs⟩ := pr
    obtain ⟨G, rb⟩ := top_rp r'
    cases b with
    | true =>
      obtain ⟨a, vs, rfl, ha, rl⟩ := seqOf_lst rb e1
      exact ⟨a, vs, rfl, .inl ⟨SqL.of ha, q _ H' F' [(d, .ref a)] r' (itok_rev e1 rl.length.symm (by rw [rl.length]; exact r'.hl _ _ (.inl ha)))⟩⟩
    | false =>
      obtain ⟨a, vs, rfl, ha, rl⟩ := seqOf_tp rb e1
      exact ⟨a, vs, rfl, .inr ⟨SqT.of ha, q _ H' F' [(d, .ref a)] r' (itok_revT e1 rl.length.symm (by rw [rl.length]; exact r'.hl _ _ (.inr ha)))⟩⟩
  · exact q.elim
/-! ### list(d) of a dict -/
def opListA : List D → Option D
  | [.dk _ ks _] => if ks.length ≤ sizeLine then some (.lst true (ks.map keyE)) else none
  | ds => opList ds
def rListK : List V → Hp → VK → Prop := fun xs H Q => ∃ (a : Addr) (kvs : List (Key × V)), xs = [.ref a] ∧ Rd H a (.dK kvs) ∧ ∀ p, H p = none → Q (.ref p) (upd H p (.lst (kvs.map fun kv => kV kv.1)))
def rListD (K : PySem.W.Frag) : List V → Hp → VK → Prop := fun xs H Q => rListA K xs H Q ∨ rListK xs H Q
theorem cr_listD (hc : X.calm = true) : CallR X (.type "list") (rListD X.K) := call_list_of.or (call_listD hc)
theorem keys_rpl {S : Gs} {H Hs : Hp} : ∀ ks : List Key, RpL S H Hs (ks.map keyE) (ks.map kV) []
  | [] => .nil
  | .inl i :: ks => .cons0 (.int i) (keys_rpl ks)
  | .inr s :: ks => .cons0 (.str s) (keys_rpl ks)
theorem opListA_S {K : PySem.W.Frag} : OpS B (rListD K) opListA := by
  intro T ts ρ σ H F ps ds vs Q d h o e q
  unfold opListA at e
  split at e
  · split at e
    · rename_i hz
      cases e
      obtain ⟨v1, G1, rfl, r1⟩ := o.one h
      obtain ⟨a, kvs, G', rfl, ha, rfl, rl, _⟩ := dk_rp hid_sub r1.1
      refine .inr ⟨a, kvs, rfl, ha, fun p hp => q _ _ _ (h.drop.newL ?_ hp ?_)⟩
      · rw [show (kvs.map fun kv => kV kv.1) = (kvs.map (·.1)).map kV by simp]
        exact keys_rpl _
      · simpa using hz
    · cases e
  · exact .inl (opList_S h o e q)
/-! ### is True, is False -/
def opIsB : List D → Option D
  | [.bl a, .bl b] => some (.bl (decide (a = b)))
  | _ => none
def opIsNB : List D → Option D
  | [.bl a, .bl b] => some (.bl (!decide (a = b)))
  | _ => none
theorem opIsB_S : OpS B (rr2 (fun x y H Q => ∃ a b, x = V.bl a ∧ y = V.bl b ∧ Q (.bl (decide (a = b))) H)) opIsB := by
  intro T ts ρ σ H F ps ds vs Q d h o e q
  unfold opIsB at e
  split at e
  · cases e
    obtain ⟨v1, v2, G1, G2, rfl, r1, r2⟩ := o.two h
    cases r1.1
    cases r2.1
    exact ⟨_, _, rfl, rfl, q _ _ _ (h.drop.push (.bl _))⟩
  · cases e
theorem opIsNB_S : OpS B (rr2 (fun x y H Q => ∃ a b, x = V.bl a ∧ y = V.bl b ∧ Q (.bl (!decide (a = b))) H)) opIsNB := by
  intro T ts ρ σ H F ps ds vs Q d h o e q
  unfold opIsNB at e
  split at e
  · cases e
    obtain ⟨v1, v2, G1, G2, rfl, r1, r2⟩ := o.two h
    cases r1.1
    cases r2.1
    exact ⟨_, _, rfl, rfl, q _ _ _ (h.drop.push (.bl _))⟩
  · cases e
end
end Fw

/- part FwR -/
namespace Fw
open PySem PySem.Spec PyProof.Rows L2
section
variable {X : Cx} {B : Bs} {T ts : Tm} {ρ : En} {σ : L2.St} {H : Hp} {F : List Addr} {d : D} {v : V} {pos pos' p : Pos} {e tg iter : Expr} {f : En → Out D}
/-! ### a dict locked while it is walked -/
def Bs.lk (B : Bs) (a : Addr) (o : HO) : Bs := { B with H0 := upd B.H0 a o }
theorem Rp.swap {S : Gs} {H H' Hs Hs' : Hp} {a : Addr} {kvs : List (Key × V)} (kF : ∀ b o, b ≠ a → H b = some o → H' b = some o) (kS : ∀ b o, b ≠ a → Hs b = some o → Hs' b = some o)
    (ha : ∀ o, Hs a = some o → Rd Hs a (.dK kvs)) (ha' : ∀ o, Hs a = some o → Rd Hs' a (.dK kvs)) : (∀ {d : D} {v : V} {F : List Addr}, Rp S H Hs d v F → a ∉ F → Rp S H' Hs' d v F) ∧ ∀ {ds : List D} {vs : List V} {F : List Addr}, RpL S H Hs ds vs F → a ∉ F → RpL S H' Hs' ds vs F := by
  have dk : ∀ {b : Addr} {kvs2 : List (Key × V)}, Rd Hs b (.dK kvs2) → Rd Hs' b (.dK kvs2) := fun {b kvs2} h => by
    by_cases c : b = a
    · subst c
      rcases h with h | ⟨o, h⟩
      · rcases ha _ h with h2 | ⟨o2, h2⟩
        · rw [h] at h2; cases h2; exact ha' _ h
        · rw [h] at h2; cases h2
      · rcases ha _ h with h2 | ⟨o2, h2⟩
        · rw [h] at h2; cases h2
        · rw [h] at h2; cases h2; exact ha' _ h
    · rcases h with h | ⟨o, h⟩
      · exact .inl (kS _ _ c h)
      · exact .inr ⟨o, kS _ _ c h⟩
  have ot : ∀ {b : Addr} {u : HO}, Hs b = some u → (∀ k, u ≠ .dK k) → (∀ o k, u ≠ .frz o (.dK k)) → Hs' b = some u := fun {b u} h n1 n2 => by
    by_cases c : b = a
    · subst c
      rcases ha _ h with h2 | ⟨o2, h2⟩
      · rw [h] at h2; cases h2; exact absurd rfl (n1 _)
      · rw [h] at h2; cases h2; exact absurd rfl (n2 _ _)
    · exact kS _ _ c h
  constructor
  · intro d v F r
    refine Rp.rec (motive_1 := fun d v F _ => a ∉ F → Rp S H' Hs' d v F) (motive_2 := fun ds vs F _ => a ∉ F → RpL S H' Hs' ds vs F) ?_ ?_ ?_ ?_ ?_ ?_ ?_ ?_ ?_ ?_ ?_ ?_ ?_ ?_ ?_ ?_ ?_ r
    · exact fun _ => .non
    · exact fun b _ => .bl b
    · exact fun b _ => .int b
    · exact fun b _ => .str b
    · exact fun h _ ih n => .lstS (ot h (by intro k; nofun) (by intro o k; nofun)) (ih n)
    · exact fun h _ ih n => .lstO (kF _ _ (fun z => n (z ▸ List.mem_cons_self)) h) (ih fun z => n (List.mem_cons_of_mem _ z))
    · exact fun h _ ih n => .tup (ot h (by intro k; nofun) (by intro o k; nofun)) (ih n)
    · exact fun h _ ih n => .dkS (dk h) (ih n)
    · exact fun h _ ih n => .dkO (kF _ _ (fun z => n (z ▸ List.mem_cons_self)) h) (ih fun z => n (List.mem_cons_of_mem _ z))
    · exact fun h _ ih n => .dtS (ot h (by intro k; nofun) (by intro o k; nofun)) (ih n)
    · exact fun h _ ih n => .dtO (kF _ _ (fun z => n (z ▸ List.mem_cons_self)) h) (ih fun z => n (List.mem_cons_of_mem _ z))
    · exact fun h _ => .rs h
    · exact fun h _ ih n => .obS (ot h (by intro k; nofun) (by intro o k; nofun)) (ih n)
    · exact fun h _ ih n => .obO (kF _ _ (fun z => n (z ▸ List.mem_cons_self)) h) (ih fun z => n (List.mem_cons_of_mem _ z))
    · exact fun {a2 d C fvs ds} h hd r hz n => .ev (ot h (by intro k z; cases (show HO.ext _ = HO.dK k from z)) (by intro o k z; cases (show HO.ext _ = HO.frz o (.dK k) from z))) (by
        cases d with
        | none => exact hd
        | some dd => exact ot hd (by intro k; nofun) (by intro o k; nofun)) r hz
    · exact fun _ => .nil
    · exact fun _ _ ih1 ih2 n => .cons (ih1 fun z => n (List.mem_append_left _ z)) (ih2 fun z => n (List.mem_append_right _ z))
  · intro ds vs F r
    refine RpL.rec (motive_1 := fun d v F _ => a ∉ F → Rp S H' Hs' d v F) (motive_2 := fun ds vs F _ => a ∉ F → RpL S H' Hs' ds vs F) ?_ ?_ ?_ ?_ ?_ ?_ ?_ ?_ ?_ ?_ ?_ ?_ ?_ ?_ ?_ ?_ ?_ r
    · exact fun _ => .non
    · exact fun b _ => .bl b
    · exact fun b _ => .int b
    · exact fun b _ => .str b
    · exact fun h _ ih n => .lstS (ot h (by intro k; nofun) (by intro o k; nofun)) (ih n)
    · exact fun h _ ih n => .lstO (kF _ _ (fun z => n (z ▸ List.mem_cons_self)) h) (ih fun z => n (List.mem_cons_of_mem _ z))
    · exact fun h _ ih n => .tup (ot h (by intro k; nofun) (by intro o k; nofun)) (ih n)
    · exact fun h _ ih n => .dkS (dk h) (ih n)
    · exact fun h _ ih n => .dkO (kF _ _ (fun z => n (z ▸ List.mem_cons_self)) h) (ih fun z => n (List.mem_cons_of_mem _ z))
    · exact fun h _ ih n => .dtS (ot h (by intro k; nofun) (by intro o k; nofun)) (ih n)
    · exact fun h _ ih n => .dtO (kF _ _ (fun z => n (z ▸ List.mem_cons_self)) h) (ih fun z => n (List.mem_cons_of_mem _ z))
    · exact fun h _ => .rs h
    · exact fun h _ ih n => .obS (ot h (by intro k; nofun) (by intro o k; nofun)) (ih n)
    · exact fun h _ ih n => .obO (kF _ _ (fun z => n (z ▸ List.mem_cons_self)) h) (ih fun z => n (List.mem_cons_of_mem _ z))
    · exact fun {a2 d C fvs ds} h hd r hz n => .ev (ot h (by intro k z; cases (show HO.ext _ = HO.dK k from z)) (by intro o k z; cases (show HO.ext _ = HO.frz o (.dK k) from z))) (by
        cases d with
        | none => exact hd
        | some dd => exact ot hd (by intro k; nofun) (by intro o k; nofun)) r hz
    · exact fun _ => .nil
    · exact fun _ _ ih1 ih2 n => .cons (ih1 fun z => n (List.mem_append_left _ z)) (ih2 fun z => n (List.mem_append_right _ z))
/-- the same ground with the object at a read otherwise -/
theorem R.swap {a : Addr} {o o' : HO} {kvs : List (Key × V)} {H0 : Hp} (h : R B T ρ σ H F) (ha : H a = some o) (ho : o = .dK kvs ∨ ∃ x, o = .frz x (.dK kvs)) (ho' : o' = .dK kvs ∨ ∃ x, o' = .frz x (.dK kvs)) (nF : a ∉ F) (nM : a ∉ B.M)
    (e0 : ∀ b u, b ≠ a → H0 b = some u → B.H0 b = some u) (ea : ∀ u, H0 a = some u → u = o') (n0 : ∀ b ∈ F, B.H0 b = none → H0 b = none) : R { B with H0 := H0 } T ρ σ (upd H a o') F := by
  obtain ⟨fp, p⟩ := h.pt
  have hh : a ∉ B.M ++ F := fun z => (List.mem_append.mp z).elim nM nF
  have rd : Rd (hid (B.M ++ F) H) a (.dK kvs) := by
    rcases ho with rfl | ⟨x, rfl⟩
    · exact .inl (hid_of ha hh)
    · exact .inr ⟨x, hid_of ha hh⟩
  have rd' : Rd (hid (B.M ++ F) (upd H a o')) a (.dK kvs) := by
    rcases ho' with rfl | ⟨x, rfl⟩
    · exact .inl (hid_of upd_same hh)
    · exact .inr ⟨x, hid_of upd_same hh⟩
  obtain ⟨k1, _⟩ := Rp.swap (S := B.S) (H := H) (H' := upd H a o') (Hs := hid (B.M ++ F) H) (Hs' := hid (B.M ++ F) (upd H a o')) (a := a) (kvs := kvs) (fun b u n e => by rw [upd_ne n]; exact e) (fun b u n e => by
    obtain ⟨m, e⟩ := hid_some e
    exact hid_of (by rw [upd_ne n]; exact e) m) (fun _ _ => rd) (fun _ _ => rd')
  have nfp : ∀ i, a ∉ fp i := fun i z => nF (p.sub i a z)
  refine { h with pt := ⟨fp, { p with tm := fun j d v e => k1 (p.tm j d v e) (nfp _), sl := fun i s e => ?_ }⟩, md := fun b hb => ?_, st := h.st.mono fun b hb u e => ?_, ext := fun b u e n => ?_, new := fun b hb => n0 b hb (h.new b hb), hl := h.hl.upd ?_, own := fun b hb => ?_ }
  · have q := p.sl i s e
    cases s with
    | no => trivial
    | sh d => obtain ⟨v, ev, r⟩ := q; exact ⟨v, ev, k1 r (fun z => nomatch z)⟩
    | ow d => obtain ⟨v, ev, r⟩ := q; exact ⟨v, ev, k1 r (nfp _)⟩
  · rw [upd_ne (by rintro rfl; exact nM hb)]; exact h.md b hb
  · rw [upd_ne (by rintro rfl; exact nM (h.sM b hb))]; exact e
  · by_cases c : b = a
    · subst c; rw [upd_same, ea _ e]
    · rw [upd_ne c]; exact h.ext b u (e0 b u c e) n
  · intro vs e
    rcases ho' with rfl | ⟨x, rfl⟩ <;> rcases e with e | e <;> cases e
  · rw [upd_ne (by rintro rfl; exact nF hb)]; exact h.own b hb
/-! ### what is walked of it -/
inductive KI where
  | keys | vals | items
def viewD : KI → D → Option (List D)
  | .keys, .dk _ ks _ => if ks.length ≤ sizeLine then some (ks.map keyE) else none
  | .vals, .dk _ ks xs => if xs.length ≤ sizeLine ∧ shrL xs = true then some xs else none
  | .items, .dk _ ks xs => if ks.length ≤ sizeLine ∧ shrL xs = true then some ((ks.zip xs).map fun p => .tup [keyE p.1, p.2]) else none
  | _, _ => none
def wiK : KI → TE → TI
  | .keys, t => iKeys t
  | .vals, t => iVals t
  | .items, t => iItems t
def itK (κ : KI) (a : Addr) (od : Obj) (kvs : List (Key × V)) : It := match κ with
  | .keys => Itk a od kvs
  | .vals => Itd a od kvs
  | .items => Iti a od kvs
theorem key_rp {S : Gs} {H Hs : Hp} (k : Key) : Rp S H Hs (keyE k) (kV k) [] := by
  cases k with
  | inl i => exact .int i
  | inr s => exact .str s
theorem itok_dk {κ : KI} {a : Addr} {od : Obj} {kvs : List (Key × V)} {xs ds : List D} {H0 : Hp} (e0 : H0 a = some (.frz od (.dK kvs))) (nS : a ∉ sA B.S) (ev : viewD κ (.dk false (kvs.map (·.1)) xs) = some ds) :
    ItOk { B with H0 := H0 } (itK κ a od kvs) ds [(.dk false (kvs.map (·.1)) xs, .ref a)] := by
  have base : ∀ (T T2 : Tm) (ρ : En) (σ : L2.St) (H : Hp) (F : List Addr), R { B with H0 := H0 } (T ++ [(.dk false (kvs.map (·.1)) xs, .ref a)] ++ T2) ρ σ H F → H a = some (.frz od (.dK kvs)) ∧ RpL B.S H (hid (B.M ++ F) H) xs (kvs.map (·.2)) [] := fun T T2 ρ σ H F r => by
    have hH := r.ext a _ e0 nS
    obtain ⟨G, rb⟩ := r.nth (n := 0) rfl
    obtain ⟨rb, _⟩ := rb
    refine ⟨hH, ?_⟩
    generalize ek : (kvs.map (·.1)) = ks at rb
    generalize eG : G = G0 at rb
    cases rb with
    | @dkS _ kvs2 _ h rl =>
      rcases h with h | ⟨o, h⟩
      · have := (hid_some h).2; rw [hH] at this; cases this
      · have := (hid_some h).2; rw [hH] at this; cases this
        exact rl
  cases κ with
  | keys =>
    simp only [viewD] at ev
    split at ev
    · rename_i hz
      cases ev
      refine ⟨by simpa using hz, fun T T2 ρ σ H F r i => ?_⟩
      obtain ⟨hH, rl⟩ := base T T2 ρ σ H F r
      refine ⟨fun hi => ⟨hH, by simpa using hi⟩, fun d ed => ?_⟩
      simp only [List.getElem?_map] at ed
      obtain ⟨k, ek, rfl⟩ := Option.map_eq_some_iff.mp ed
      obtain ⟨kv, ekv, rfl⟩ := Option.map_eq_some_iff.mp ek
      refine ⟨⟨hH, (List.getElem?_eq_some_iff.mp ekv).1⟩, fun x H' ⟨eH, k2, v2, e2, ex⟩ => ?_⟩
      subst eH; subst ex
      rw [ekv] at e2; cases e2
      exact ⟨F, r.push (key_rp _)⟩
    · cases ev
  | vals =>
    simp only [viewD] at ev
    split at ev
    · rename_i hz
      cases ev
      refine ⟨hz.1, fun T T2 ρ σ H F r i => ?_⟩
      obtain ⟨hH, rl⟩ := base T T2 ρ σ H F r
      have hl : xs.length = kvs.length := by simpa using rl.length
      refine ⟨fun hi => ⟨hH, by omega⟩, fun d ed => ?_⟩
      obtain ⟨v, hv, rv⟩ := rl.get0 ed
      obtain ⟨kv, ekv, rfl⟩ := Option.map_eq_some_iff.mp (by rwa [List.getElem?_map] at hv)
      refine ⟨⟨hH, (List.getElem?_eq_some_iff.mp ekv).1⟩, fun x H' ⟨eH, k2, e2⟩ => ?_⟩
      subst eH
      rw [ekv] at e2; cases e2
      exact ⟨F, r.push rv⟩
    · cases ev
  | items =>
    simp only [viewD] at ev
    split at ev
    · rename_i hz
      cases ev
      refine ⟨by
        have := hz.1
        rw [List.length_map, List.length_zip, List.length_map]
        rw [List.length_map] at this
        exact Nat.le_trans (Nat.min_le_left _ _) this, fun T T2 ρ σ H F r i => ?_⟩
      obtain ⟨hH, rl⟩ := base T T2 ρ σ H F r
      have hl : xs.length = kvs.length := by simpa using rl.length
      refine ⟨fun hi => ⟨hH, by simpa [hl] using hi⟩, fun d ed => ?_⟩
      rw [List.getElem?_map] at ed
      obtain ⟨⟨k, x0⟩, ek, rfl⟩ := Option.map_eq_some_iff.mp ed
      obtain ⟨e1, e2⟩ := List.getElem?_zip_eq_some.mp ek
      rw [List.getElem?_map] at e1
      obtain ⟨kv, ekv, rfl⟩ := Option.map_eq_some_iff.mp e1
      obtain ⟨v, hv, rv⟩ := rl.get0 e2
      rw [List.getElem?_map, ekv] at hv
      cases hv
      refine ⟨⟨hH, (List.getElem?_eq_some_iff.mp ekv).1⟩, fun x H' ⟨t, k2, v2, e3, ex, ht, eH⟩ => ?_⟩
      subst ex; subst eH
      rw [ekv] at e3; cases e3
      exact ⟨F, pair_push r ht (key_rp _) rv⟩
    · cases ev
/-! ### for .. in d -/
theorem for_mid {t : D → En → Option En} {body : En → Out Fl} {fg : List Nat} {items : List D} {J : It} {fr : Tm} {ρ' : En} {H1 : Hp} {F1 : List Addr} {g : TG} {tb : TS} (hg : ∀ v σ H Q, cG B t v σ H Q → g v σ H Q) (htb : ∀ D' σ H, cS B body D' σ H → tb D' σ H) {D' : Ends}
    (r1 : R B (T ++ fr) ρ' σ H1 F1) (ok : ItOk B J items fr) (q : (forL t body fg items ρ').wp (slQ B T D') (sxQ B T)) :
    ∃ W : Nat → Nat → L2.St → Hp → Prop, (∃ m, W 0 m σ H1) ∧ ∀ i m σ H, W i m σ H →
      (J.stop i H ∧ D'.nx σ H) ∨ (J.go i H ∧ ∃ N : L2.St → Hp → Prop, (∀ σ' H', N σ' H' → ∃ m', m' < m ∧ W (i + 1) m' σ' H') ∧ ∀ x H', J.yld i H x H' → g x σ H' fun σ2 H2 => tb { D' with nx := N, ct := N, bk := D'.nx } σ2 H2) := by
  refine ⟨fun i m σ H => m = items.length - i ∧ i ≤ items.length ∧ ∃ ρ F, R B (T ++ fr) ρ σ H F ∧ (forL t body fg (items.drop i) ρ).wp (slQ B T D') (sxQ B T), ⟨items.length, by simp, Nat.zero_le _, ρ', F1, r1, by simpa using q⟩, ?_⟩
  rintro i m σ H ⟨rfl, hi, ρ, F, r, q⟩
  have k := ok.2 T [] ρ σ H F (by simpa using r) i
  by_cases hlt : i < items.length
  · obtain ⟨d, ed⟩ : ∃ d, items[i]? = some d := ⟨_, List.getElem?_eq_getElem hlt⟩
    obtain ⟨hgo, hy⟩ := k.2 d ed
    have edr : items.drop i = d :: items.drop (i + 1) := by rw [List.drop_eq_getElem_cons hlt]; rw [List.getElem?_eq_getElem hlt] at ed; cases ed; rfl
    rw [edr, forL] at q
    refine .inr ⟨hgo, fun σ' H' => i + 1 ≤ items.length ∧ ∃ ρ F, R B (T ++ fr) ρ σ' H' F ∧ (forL t body fg (items.drop (i + 1)) ρ).wp (slQ B T D') (sxQ B T), fun σ' H' ⟨h1, h2⟩ => ⟨items.length - (i + 1), by omega, rfl, h1, h2⟩, fun x H' y => ?_⟩
    obtain ⟨F', r'⟩ := hy x H' y
    rw [List.append_nil] at r'
    split at q
    · exact q.elim
    · rename_i ρ1 e1
      refine hg _ _ _ _ ⟨T ++ fr, ρ, F', d, ρ1, r', e1, fun σ2 H2 F2 r2 => ?_⟩
      refine htb _ _ _ ⟨T ++ fr, ρ1, F2, r2, Out.wp_mono (Out.wp_bind q) (fun fl ρ2 q => ?_) fun x ρ2 z cls dd σ3 H3 F3 xr r3 => z cls dd σ3 H3 F3 xr r3.drop⟩
      cases fl with
      | nx => exact fun σ3 H3 F3 r3 => ⟨hlt, _, F3, r3.forget fg, q⟩
      | ct => exact fun σ3 H3 F3 r3 => ⟨hlt, _, F3, r3.forget fg, q⟩
      | bk => exact fun σ3 H3 F3 r3 => q σ3 H3 F3 r3.drop
      | rt d => exact fun v σ3 H3 F3 r3 => q v σ3 H3 F3 (R.dropMid r3)
  · have e : i = items.length := by omega
    subst e
    rw [List.drop_length, forL] at q
    exact .inl ⟨k.1 (Nat.le_refl _), q σ H F r.drop⟩
/-- reading a name -/
theorem var_run {i : Nat} {ρ1 : En} (h : R B T ρ σ H F) (e : evVar i ρ = .ok d ρ1) : ∃ v F', σ[i]? = some (some v) ∧ R B (T ++ [(d, v)]) ρ1 σ H F' := by
  unfold evVar at e
  split at e
  · rename_i d e1
    cases e
    obtain ⟨v, ev, r'⟩ := h.read e1
    exact ⟨v, F, ev, r'⟩
  · rename_i d e1
    cases e
    obtain ⟨v, F', ev, r'⟩ := h.freeze e1
    exact ⟨v, F', ev, r'⟩
  · cases e
def tLk (t : TS) : TS := fun D σ H => tLock t D σ H ∨ t D σ H
theorem ps_lk {st : Stmt} {t : TS} (h : PS X st t) : PS X st (tLk t) := ⟨fun pins s σ H D I q => by
  rcases q with q | q
  · exact (ps_lock h).run pins s σ H D I q
  · exact h.run pins s σ H D I q⟩
def cSA (B : Bs) (f : En → Out Fl) : TS := fun D σ H => ∃ H0, cS { B with H0 := H0 } f D σ H
def cGA (B : Bs) (t : D → En → Option En) : TG := fun v σ H Q => ∃ H0, cG { B with H0 := H0 } t v σ H Q
def sForD (κ : KI) (i : Nat) (t : D → En → Option En) (body : En → Out Fl) (fg : List Nat) : En → Out Fl := fun ρ => (evVar i ρ).bind fun d ρ1 => match viewD κ d with
  | some ds => noEx (forL t body fg ds ρ1)
  | none => .no
theorem view_dk {κ : KI} {ds : List D} (e : viewD κ d = some ds) : ∃ o ks xs, d = .dk o ks xs := by
  cases d <;> cases κ <;> first | (simp [viewD] at e; done) | exact ⟨_, _, _, rfl⟩
theorem noEx_ok {α : Type} {o : Out α} {Q : α → En → Prop} {X1 X2 : Exc → En → Prop} (h : (noEx o).wp Q X1) : o.wp Q X2 := by
  cases o with
  | ok a ρ => exact h
  | ex x ρ => exact h.elim
  | no => exact h
/-- the walk's turns under the lock -/
theorem dk_turns {κ : KI} {i : Nat} {a : Addr} {od : Obj} {kvs : List (Key × V)} {tb : TS} {g : TG} {D1 : Ends} {σ : L2.St} {H : Hp} (ev : σ[i]? = some (some (.ref a))) (ha : H a = some (.frz od (.dK kvs)))
    (q : ∃ W : Nat → Nat → L2.St → Hp → Prop, (∃ m, W 0 m σ H) ∧ ∀ j m σ H, W j m σ H → ((itK κ a od kvs).stop j H ∧ D1.nx σ H) ∨ ((itK κ a od kvs).go j H ∧ ∃ N : L2.St → Hp → Prop, (∀ σ' H', N σ' H' → ∃ m', m' < m ∧ W (j + 1) m' σ' H') ∧ ∀ x H', (itK κ a od kvs).yld j H x H' → g x σ H' fun σ2 H2 => tb { D1 with nx := N, ct := N, bk := D1.nx } σ2 H2)) :
    tFor (wiK κ (tVar i)) g tb D1 σ H := by
  cases κ with
  | keys => exact ⟨_, ev, a, od, rfl, .inl ⟨kvs, ha, q⟩⟩
  | vals => exact ⟨_, ev, a, od, kvs, rfl, ha, q⟩
  | items => exact ⟨_, ev, a, od, kvs, rfl, ha, q⟩
theorem es_forD {κ : KI} {i : Nat} {t : D → En → Option En} {body : List Stmt} {f : En → Out Fl} {fg : List Nat} (hp : PassesOwn (model X.prog X.w) X.A X.env X.xe) (hc : X.calm = true) (hi : PI X tg iter (wiK κ (tVar i))) (hg : ∀ H0, PG X tg (cG { B with H0 := H0 } t))
    (hb : ∀ H0, PSs X body (cS { B with H0 := H0 } f)) (hs : ∀ x, foldedSetIterable iter X.env x = pure x := by intro _; rfl) : PS X (.For tg iter body [] pos) (cS B (sForD κ i t f fg)) := by
  have hG : PG X tg (cGA B t) := ⟨fun pins s σ H v u Q I r ⟨H0, q⟩ => (hg H0).run pins s σ H v u Q I r q⟩
  have hB : PSs X body (cSA B f) := ⟨fun pins s σ H D I ⟨H0, q⟩ => (hb H0).run pins s σ H D I q⟩
  refine (ps_lk (ps_for hp hc hi hG hB hs)).imp fun D' σ H ⟨T, ρ, F, r, q⟩ => ?_
  unfold sForD at q
  cases e1 : evVar i ρ with
  | no => rw [e1] at q; exact q.elim
  | ex x ρ1 => unfold evVar at e1; split at e1 <;> cases e1
  | ok d ρ1 =>
    rw [e1] at q
    simp only [Out.bind] at q
    obtain ⟨v, F1, ev, r1⟩ := var_run r e1
    split at q
    · rename_i ds e2
      obtain ⟨o, ks, xs, rfl⟩ := view_dk e2
      have hshr : o = false := by
        unfold evVar at e1
        split at e1
        · rename_i d0 e0
          cases e1
          obtain ⟨fp, p⟩ := r.pt
          obtain ⟨v', _, rv⟩ := p.sl i _ e0
          generalize eG : ([] : List Addr) = G at rv
          cases rv with
          | dkS h rl => rfl
          | dkO h rl => cases eG
        · rename_i d0 e0
          injection e1 with e1 e3
          cases d0 <;> simp [frz] at e1
          first | exact e1.1 | exact e1.1.symm
        · cases e1
      subst hshr
      obtain ⟨G, rb⟩ := top_rp r1
      obtain ⟨rb, _⟩ := rb
      generalize ek : ks = ks0 at rb
      generalize eG : G = G0 at rb
      have hrb := rb
      cases rb with
      | @dkS a kvs _ hrd rl =>
        subst ek
        have hvis : a ∉ B.M ++ F1 := by
          rcases hrd with h | ⟨x, h⟩ <;> exact (hid_some h).1
        have nF : a ∉ F1 := fun z => hvis (List.mem_append_right _ z)
        have nM : a ∉ B.M := fun z => hvis (List.mem_append_left _ z)
        have nS : a ∉ sA B.S := fun z => nM (r1.sM a z)
        have go : ∀ (od : Obj) (o : HO), H a = some o → (o = .dK kvs ∨ ∃ x, o = .frz x (.dK kvs)) → ∀ D1 : Ends,
            (∀ fl ρ2, slQ B T D' fl ρ2 → slQ { B with H0 := upd B.H0 a (.frz od (.dK kvs)) } T D1 fl ρ2) → tFor (wiK κ (tVar i)) (cGA B t) (cSA B f) D1 σ (upd H a (.frz od (.dK kvs))) := fun od o ho ho2 D1 hD => by
          have r2 := r1.swap (H0 := upd B.H0 a (.frz od (.dK kvs))) ho ho2 (.inr ⟨od, rfl⟩) nF nM (fun b u n e => by rwa [upd_ne n] at e) (fun u e => by rw [upd_same] at e; exact (Option.some.inj e).symm) (fun b hb e => by rw [upd_ne (by rintro rfl; exact nF hb)]; exact e)
          refine dk_turns ev upd_same (for_mid (B := { B with H0 := upd B.H0 a (.frz od (.dK kvs)) }) (fun v σ H Q z => ⟨_, z⟩) (fun D' σ H z => ⟨_, z⟩) r2 (itok_dk (B := B) upd_same nS e2) (Out.wp_mono (noEx_ok (X2 := sxQ { B with H0 := upd B.H0 a (.frz od (.dK kvs)) } T) q) (fun fl ρ2 z => hD fl ρ2 z) fun _ _ z => z))
        -- back to the ground as it was
        have back : ∀ (od : Obj) (o : HO), H a = some o → (o = .dK kvs ∨ ∃ x, o = .frz x (.dK kvs)) → ∀ {T2 : Tm} {ρ2 : En} {σ2 : L2.St} {H2 : Hp} {F2 : List Addr}, R { B with H0 := upd B.H0 a (.frz od (.dK kvs)) } T2 ρ2 σ2 H2 F2 → H2 a = some (.frz od (.dK kvs)) ∧ R B T2 ρ2 σ2 (upd H2 a o) F2 := fun od o ho ho2 {T2 ρ2 σ2 H2 F2} r2 => by
          have hH := r2.ext a _ upd_same nS
          have ne : ∀ b ∈ F2, b ≠ a := fun b hb z => by
            have := r2.new b hb
            rw [z] at this
            have h2 : upd B.H0 a (.frz od (.dK kvs)) a = none := this
            rw [upd_same] at h2; cases h2
          exact ⟨hH, r2.swap (H0 := B.H0) hH (.inr ⟨od, rfl⟩) ho2 (fun z => ne a z rfl) nM (fun b u n e => by show upd B.H0 a _ b = some u; rw [upd_ne n]; exact e) (fun u e => by
            have := r1.ext a u e nS
            rw [ho] at this; exact (Option.some.inj this).symm) (fun b hb e => by
            have h2 : upd B.H0 a (.frz od (.dK kvs)) b = none := e
            rwa [upd_ne (ne b hb)] at h2)⟩
        rcases hrd with h | ⟨x, h⟩
        · have hH := (hid_some h).2
          refine .inl ⟨a, .dK kvs, hH, trivial, fun od => go od _ hH (.inl rfl) _ fun fl ρ2 z => ?_⟩
          cases fl with
          | nx => exact fun σ2 H2 F2 r2 => ⟨(back od _ hH (.inl rfl) r2).1, z σ2 _ F2 (back od _ hH (.inl rfl) r2).2⟩
          | rt d => exact fun v σ2 H2 F2 r2 => ⟨(back od _ hH (.inl rfl) r2).1, z v σ2 _ F2 (back od _ hH (.inl rfl) r2).2⟩
          | bk => exact fun σ2 H2 F2 r2 => ⟨(back od _ hH (.inl rfl) r2).1, z σ2 _ F2 (back od _ hH (.inl rfl) r2).2⟩
          | ct => exact fun σ2 H2 F2 r2 => ⟨(back od _ hH (.inl rfl) r2).1, z σ2 _ F2 (back od _ hH (.inl rfl) r2).2⟩
        · have hH := (hid_some h).2
          have same : ∀ {H2 : Hp} {o : HO}, H2 a = some o → upd H2 a o = H2 := fun {H2 o} h => funext fun b => by
            by_cases c : b = a
            · subst c; rw [upd_same, h]
            · rw [upd_ne c]
          refine .inr ?_
          have w := go x _ hH (.inr ⟨x, rfl⟩) D' fun fl ρ2 z => ?_
          · rwa [same hH] at w
          · have bk2 : ∀ {T2 : Tm} {ρ2 : En} {σ2 : L2.St} {H2 : Hp} {F2 : List Addr}, R { B with H0 := upd B.H0 a (.frz x (.dK kvs)) } T2 ρ2 σ2 H2 F2 → R B T2 ρ2 σ2 H2 F2 := fun {T2 ρ2 σ2 H2 F2} r2 => by
              obtain ⟨h1, h2⟩ := back x _ hH (.inr ⟨x, rfl⟩) r2
              rwa [same h1] at h2
            cases fl with
            | nx => exact fun σ2 H2 F2 r2 => z σ2 _ F2 (bk2 r2)
            | rt d => exact fun v σ2 H2 F2 r2 => z v σ2 _ F2 (bk2 r2)
            | bk => exact fun σ2 H2 F2 r2 => z σ2 _ F2 (bk2 r2)
            | ct => exact fun σ2 H2 F2 r2 => z σ2 _ F2 (bk2 r2)
    · exact q.elim
/-! ### [.. for .. in d] -/
def tLkE (t : TE) : TE := fun σ H Q => tLockE t σ H Q ∨ t σ H Q
theorem pe_lk {e : Expr} {t : TE} (h : PE X e t) : PE X e (tLkE t) := ⟨fun pins s σ H Q I q => by
  rcases q with q | q
  · exact (pe_lock h).run pins s σ H Q I q
  · exact h.run pins s σ H Q I q⟩
def evLcD (κ : KI) (i : Nat) (t : D → En → Option En) (c : En → Out Bool) (elt : En → Out D) (own : List Nat) : En → Out D := fun ρ => (evVar i ρ).bind fun d ρ1 => match viewD κ d with
  | some ds => (noEx (lcL t c elt own ds { ρ1 with vs := fgt ρ1.vs own })).bind fun ys ρ2 => .ok (.lst true ys) ρ2
  | none => .no
theorem dk_lc {κ : KI} {i : Nat} {a : Addr} {od : Obj} {kvs : List (Key × V)} {gt : TG} {tt : TT} {te : TE} {own : List Nat} {σ : L2.St} {H : Hp} {Q : VK} (ev : σ[i]? = some (some (.ref a))) (ha : H a = some (.frz od (.dK kvs)))
    (q : ∀ A, H A = none → ∃ W : Nat → Nat → Hp → Prop, (∃ m, W 0 m (upd H A (.lst []))) ∧ ∀ j m H, W j m H →
      ((itK κ a od kvs).stop j H ∧ Q (.ref A) H) ∨ ((itK κ a od kvs).go j H ∧ ∃ Nx : Hp → Prop, (∀ H', Nx H' → ∃ m', m' < m ∧ W (j + 1) m' H') ∧ ∀ x H', (itK κ a od kvs).yld j H x H' → gt x (wipe σ own) H' fun σ2 H2 => wipe σ2 own = wipe σ own ∧ tt σ2 H2 fun b H3 =>
        if b = true then te σ2 H3 fun y H4 => ∃ acc, H4 A = some (.lst acc) ∧ acc.length < sizeLine ∧ Nx (upd H4 A (.lst (acc ++ [y]))) else Nx H3)) :
    tLc (wiK κ (tVar i)) gt tt te own σ H Q := by
  cases κ with
  | keys => exact ⟨_, ev, a, od, rfl, .inl ⟨kvs, ha, q⟩⟩
  | vals => exact ⟨_, ev, a, od, kvs, rfl, ha, q⟩
  | items => exact ⟨_, ev, a, od, kvs, rfl, ha, q⟩
theorem lc_runD {κ : KI} {i : Nat} {t : D → En → Option En} {c : En → Out Bool} {elt : En → Out D} {own : List Nat} (hfr : B.free own = true) {Q : VK} {tt : Hp → TT} {te : Hp → TE}
    (htt : ∀ H0 σ H Q, cT ({ B with H0 := H0 } : Bs).mute c σ H Q → tt H0 σ H Q) (hte : ∀ H0 σ H Q, cE ({ B with H0 := H0 } : Bs).mute elt σ H Q → te H0 σ H Q) (gt : TG)
    (hgg : ∀ (H0 : Hp) (T : Tm) (ρ : En) (F : List Addr) (d : D) (ρ' : En) (v : V) (σ : L2.St) (H : Hp) (Q : L2.St → Hp → Prop), R { B with H0 := H0 } (T ++ [(d, v)]) ρ (wipe σ own) H F → t d ρ = some ρ' → (∀ σ' H' F', R { B with H0 := H0 } T ρ' σ' H' F' → wipe σ' own = wipe σ own → Q σ' H') → gt v (wipe σ own) H Q)
    (h : cE B (evLcD κ i t c elt own) σ H Q) : tLkE (tLc (wiK κ (tVar i)) gt (fun σ H Q => ∃ H0, tt H0 σ H Q) (fun σ H Q => ∃ H0, te H0 σ H Q) own) σ H Q := by
  obtain ⟨T, ρ, F, r, q⟩ := h
  unfold evLcD at q
  cases e1 : evVar i ρ with
  | no => rw [e1] at q; exact q.elim
  | ex x ρ1 => unfold evVar at e1; split at e1 <;> cases e1
  | ok d ρ1 =>
    rw [e1] at q
    simp only [Out.bind] at q
    obtain ⟨v, F1, ev, r1⟩ := var_run r e1
    split at q
    · rename_i ds e2
      obtain ⟨o, ks, xs, rfl⟩ := view_dk e2
      have hshr : o = false := by
        unfold evVar at e1
        split at e1
        · rename_i d0 e0
          cases e1
          obtain ⟨fp, p⟩ := r.pt
          obtain ⟨v', _, rv⟩ := p.sl i _ e0
          generalize eG : ([] : List Addr) = G at rv
          cases rv with
          | dkS h rl => rfl
          | dkO h rl => cases eG
        · rename_i d0 e0
          injection e1 with e1 e3
          cases d0 <;> simp [frz] at e1
          first | exact e1.1 | exact e1.1.symm
        · cases e1
      subst hshr
      obtain ⟨G, rb⟩ := top_rp r1
      obtain ⟨rb, _⟩ := rb
      generalize ek : ks = ks0 at rb
      generalize eG : G = G0 at rb
      cases rb with
      | @dkS a kvs _ hrd rl =>
        subst ek
        have hvis : a ∉ B.M ++ F1 := by
          rcases hrd with h | ⟨x, h⟩ <;> exact (hid_some h).1
        have nF : a ∉ F1 := fun z => hvis (List.mem_append_right _ z)
        have nM : a ∉ B.M := fun z => hvis (List.mem_append_left _ z)
        have nS : a ∉ sA B.S := fun z => nM (r1.sM a z)
        have go : ∀ (od : Obj) (o : HO), H a = some o → (o = .dK kvs ∨ ∃ x, o = .frz x (.dK kvs)) → ∀ Q1 : VK,
            (∀ ys ρ2, (∀ v H' F', R B (T ++ [(.lst true ys, v)]) ρ2 σ H' F' → Q v H') → ∀ v H' F', R { B with H0 := upd B.H0 a (.frz od (.dK kvs)) } (T ++ [(.lst true ys, v)]) ρ2 σ H' F' → Q1 v H') →
            tLc (wiK κ (tVar i)) gt (fun σ H Q => ∃ H0, tt H0 σ H Q) (fun σ H Q => ∃ H0, te H0 σ H Q) own σ (upd H a (.frz od (.dK kvs))) Q1 := fun od o ho ho2 Q1 hQ => by
          have r2 := r1.swap (H0 := upd B.H0 a (.frz od (.dK kvs))) ho ho2 (.inr ⟨od, rfl⟩) nF nM (fun b u n e => by rwa [upd_ne n] at e) (fun u e => by rw [upd_same] at e; exact (Option.some.inj e).symm) (fun b hb e => by rw [upd_ne (by rintro rfl; exact nF hb)]; exact e)
          refine dk_lc ev upd_same (lc_mid (B := { B with H0 := upd B.H0 a (.frz od (.dK kvs)) }) (tt := fun σ H Q => ∃ H0, tt H0 σ H Q) (te := fun σ H Q => ∃ H0, te H0 σ H Q) hfr (fun σ H Q z => ⟨_, htt _ _ _ _ z⟩) (fun σ H Q z => ⟨_, hte _ _ _ _ z⟩) gt (hgg _) r2 (itok_dk (B := B) upd_same nS e2)
            (fun (ys : List D) ρ2 => ∀ v H' F', R B (T ++ [(D.lst true ys, v)]) ρ2 σ H' F' → Q v H') (fun ys ρ2 v H' F' z r => hQ ys ρ2 z v H' F' (R.dropMid r)) ?_)
          exact noEx_ok (X2 := exQ { B with H0 := upd B.H0 a (.frz od (.dK kvs)) } T σ) (Out.wp_mono (Out.wp_bind q) (fun ys ρ2 z => z) fun _ _ z => z)
        have back : ∀ (od : Obj) (o : HO), H a = some o → (o = .dK kvs ∨ ∃ x, o = .frz x (.dK kvs)) → ∀ {T2 : Tm} {ρ2 : En} {σ2 : L2.St} {H2 : Hp} {F2 : List Addr}, R { B with H0 := upd B.H0 a (.frz od (.dK kvs)) } T2 ρ2 σ2 H2 F2 → H2 a = some (.frz od (.dK kvs)) ∧ R B T2 ρ2 σ2 (upd H2 a o) F2 := fun od o ho ho2 {T2 ρ2 σ2 H2 F2} r2 => by
          have hH := r2.ext a _ upd_same nS
          have ne : ∀ b ∈ F2, b ≠ a := fun b hb z => by
            have := r2.new b hb
            rw [z] at this
            have h2 : upd B.H0 a (.frz od (.dK kvs)) a = none := this
            rw [upd_same] at h2; cases h2
          exact ⟨hH, r2.swap (H0 := B.H0) hH (.inr ⟨od, rfl⟩) ho2 (fun z => ne a z rfl) nM (fun b u n e => by show upd B.H0 a _ b = some u; rw [upd_ne n]; exact e) (fun u e => by
            have := r1.ext a u e nS
            rw [ho] at this; exact (Option.some.inj this).symm) (fun b hb e => by
            have h2 : upd B.H0 a (.frz od (.dK kvs)) b = none := e
            rwa [upd_ne (ne b hb)] at h2)⟩
        rcases hrd with h | ⟨x, h⟩
        · have hH := (hid_some h).2
          exact .inl ⟨a, .dK kvs, hH, trivial, fun od => go od _ hH (.inl rfl) _ fun ys ρ2 z v H' F' r2 => ⟨(back od _ hH (.inl rfl) r2).1, z v _ F' (back od _ hH (.inl rfl) r2).2⟩⟩
        · have hH := (hid_some h).2
          have same : ∀ {H2 : Hp} {o : HO}, H2 a = some o → upd H2 a o = H2 := fun {H2 o} h => funext fun b => by
            by_cases c : b = a
            · subst c; rw [upd_same, h]
            · rw [upd_ne c]
          have w := go x _ hH (.inr ⟨x, rfl⟩) Q fun ys ρ2 z v H' F' r2 => by
            obtain ⟨h1, h2⟩ := back x _ hH (.inr ⟨x, rfl⟩) r2
            rw [same h1] at h2
            exact z v _ F' h2
          rw [same hH] at w
          exact .inr w
    · exact q.elim
theorem pts_ex {ifs : List Expr} {tt : Hp → TT} (h : ∀ H0, PTs X ifs (tt H0)) : PTs X ifs (fun σ H Q => ∃ H0, tt H0 σ H Q) := ⟨fun pins s σ H Q I ⟨H0, q⟩ => (h H0).run pins s σ H Q I q⟩
theorem pe_ex {e : Expr} {te : Hp → TE} (h : ∀ H0, PE X e (te H0)) : PE X e (fun σ H Q => ∃ H0, te H0 σ H Q) := ⟨fun pins s σ H Q I ⟨H0, q⟩ => (h H0).run pins s σ H Q I q⟩
variable {elt : Expr} {ifs : List Expr} {scope : Scope} {own : List (Str × Nat)} {fc : En → Out Bool} {fe : En → Out D}
theorem ev_lcND {κ : KI} {i i0 : Nat} {x : Str} {px : Pos} {tt : Hp → TT} (hc : X.calm = true) (hN : X.N.Nodup) (hi : PI X (.Name x px) iter (wiK κ (tVar i0))) (ok : BlkOk X.N X.env.scope scope own) (hio : i ∈ own.map (·.2))
    (hg : ∀ (s : Shared) (H : Hp) (C : Addr) (cl : List (Str × Addr)) (fp : List Addr), PG (X.blk s H scope (compEnvC scope cl C X.env) fp) (.Name x px) (gName i))
    (ht : ∀ (H0 : Hp) (s : Shared) (H : Hp) (C : Addr) (cl : List (Str × Addr)) (fp : List Addr), PTs (X.blk s H scope (compEnvC scope cl C X.env) fp) ifs (tt H0)) (hti : ∀ H0 σ H Q, cT ({ B with H0 := H0 } : Bs).mute fc σ H Q → tt H0 σ H Q)
    (he : ∀ (H0 : Hp) (s : Shared) (H : Hp) (C : Addr) (cl : List (Str × Addr)) (fp : List Addr), PE (X.blk s H scope (compEnvC scope cl C X.env) fp) elt (cE ({ B with H0 := H0 } : Bs).mute fe)) (hs : ∀ x, foldedSetIterable iter X.env x = pure x := by intro _; rfl) (hme : B.free (own.map (·.2)) = true := by rfl) :
    PE X (.ListComp elt [⟨.Name x px, iter, ifs, 0⟩] scope pos) (cE B (evLcD κ i0 (tgN i) fc fe (own.map (·.2)))) :=
  (pe_lk (pe_lc (g := gName i) hc hN hi ok hg (fun s H C cl fp => pts_ex fun H0 => ht H0 s H C cl fp) (fun s H C cl fp => pe_ex fun H0 => he H0 s H C cl fp) hs)).imp fun σ H Q h => lc_runD hme hti (fun _ _ _ _ z => z) _ (fun H0 => gg_name (B := { B with H0 := H0 }) hme hio) h
theorem ev_lcTD {κ : KI} {is : List Nat} {i0 : Nat} {es : List Expr} {k : Nat} {px : Pos} {tt : Hp → TT} (hc : X.calm = true) (hN : X.N.Nodup) (hi : PI X (.Tuple es k px) iter (wiK κ (tVar i0))) (ok : BlkOk X.N X.env.scope scope own) (hio : ∀ i ∈ is, i ∈ own.map (·.2))
    (hg : ∀ (s : Shared) (H : Hp) (C : Addr) (cl : List (Str × Addr)) (fp : List Addr), PG (X.blk s H scope (compEnvC scope cl C X.env) fp) (.Tuple es k px) (gTupN X.K is))
    (ht : ∀ (H0 : Hp) (s : Shared) (H : Hp) (C : Addr) (cl : List (Str × Addr)) (fp : List Addr), PTs (X.blk s H scope (compEnvC scope cl C X.env) fp) ifs (tt H0)) (hti : ∀ H0 σ H Q, cT ({ B with H0 := H0 } : Bs).mute fc σ H Q → tt H0 σ H Q)
    (he : ∀ (H0 : Hp) (s : Shared) (H : Hp) (C : Addr) (cl : List (Str × Addr)) (fp : List Addr), PE (X.blk s H scope (compEnvC scope cl C X.env) fp) elt (cE ({ B with H0 := H0 } : Bs).mute fe)) (hs : ∀ x, foldedSetIterable iter X.env x = pure x := by intro _; rfl) (hme : B.free (own.map (·.2)) = true := by rfl) :
    PE X (.ListComp elt [⟨.Tuple es k px, iter, ifs, 0⟩] scope pos) (cE B (evLcD κ i0 (tgT is) fc fe (own.map (·.2)))) :=
  (pe_lk (pe_lc (g := gTupN X.K is) hc hN hi ok hg (fun s H C cl fp => pts_ex fun H0 => ht H0 s H C cl fp) (fun s H C cl fp => pe_ex fun H0 => he H0 s H C cl fp) hs)).imp fun σ H Q h => lc_runD hme hti (fun _ _ _ _ z => z) _ (fun H0 => gg_tup (B := { B with H0 := H0 }) hme hio) h
theorem es_asD {j : Nat} {te : TE} {st : Stmt} {f : En → Out D} (h : PS X st (tAsg te (gName j))) (w : ∀ σ H Q, cE B f σ H Q → tLkE te σ H Q) (hf : B.free [j] = true) : PS X st (cS B (sAs j f)) := (ps_lk h).imp fun D' σ H ⟨T, ρ, F, r, q⟩ => by
  have z := w σ H (fun v H1 => D'.nx (σ.set j (some v)) H1) ⟨T, ρ, F, r, Out.wp_mono (Out.wp_bind q) (fun d ρ' q v H' F' r' => q _ _ _ (r'.store hf)) fun _ _ z => exS z⟩
  rcases z with ⟨d, u, hd, mu, z⟩ | z
  · exact .inl ⟨d, u, hd, mu, fun od => z od⟩
  · exact .inr z
theorem es_setLcND {κ : KI} {j : Nat} {y : Str} {py spos : Pos} {i i0 : Nat} {x : Str} {px : Pos} {tt : Hp → TT} (hc : X.calm = true) (hN : X.N.Nodup) (hy : X.N[j]? = some y) (hyl : X.env.scope.names.lookup y = some .local)
    (hsw : swapsWith (.ListComp elt [⟨.Name x px, iter, ifs, 0⟩] scope pos) (some (.Name y py)) spos.line X.env = pure true) (hi : PI X (.Name x px) iter (wiK κ (tVar i0))) (ok : BlkOk X.N X.env.scope scope own) (hio : i ∈ own.map (·.2))
    (hg : ∀ (s : Shared) (H : Hp) (C : Addr) (cl : List (Str × Addr)) (fp : List Addr), PG (X.blk s H scope (compEnvC scope cl C X.env) fp) (.Name x px) (gName i))
    (ht : ∀ (H0 : Hp) (s : Shared) (H : Hp) (C : Addr) (cl : List (Str × Addr)) (fp : List Addr), PTs (X.blk s H scope (compEnvC scope cl C X.env) fp) ifs (tt H0)) (hti : ∀ H0 σ H Q, cT ({ B with H0 := H0 } : Bs).mute fc σ H Q → tt H0 σ H Q)
    (he : ∀ (H0 : Hp) (s : Shared) (H : Hp) (C : Addr) (cl : List (Str × Addr)) (fp : List Addr), PE (X.blk s H scope (compEnvC scope cl C X.env) fp) elt (cE ({ B with H0 := H0 } : Bs).mute fe)) (hs : ∀ x, foldedSetIterable iter X.env x = pure x := by intro _; rfl) (hme : B.free (own.map (·.2)) = true := by rfl) (hmj : B.free [j] = true := by rfl) :
    PS X (.Assign [.Name y py] (.ListComp elt [⟨.Name x px, iter, ifs, 0⟩] scope pos) spos) (cS B (sAs j (evLcD κ i0 (tgN i) fc fe (own.map (·.2))))) :=
  es_asD (ps_setLc (g := gName i) hc hN hy hyl hsw hi ok hg (fun s H C cl fp => pts_ex fun H0 => ht H0 s H C cl fp) (fun s H C cl fp => pe_ex fun H0 => he H0 s H C cl fp) hs) (fun σ H Q h => lc_runD hme hti (fun _ _ _ _ z => z) _ (fun H0 => gg_name (B := { B with H0 := H0 }) hme hio) h) hmj
theorem es_setLcTD {κ : KI} {j : Nat} {y : Str} {py spos : Pos} {is : List Nat} {i0 : Nat} {es : List Expr} {k : Nat} {px : Pos} {tt : Hp → TT} (hc : X.calm = true) (hN : X.N.Nodup) (hy : X.N[j]? = some y) (hyl : X.env.scope.names.lookup y = some .local)
    (hsw : swapsWith (.ListComp elt [⟨.Tuple es k px, iter, ifs, 0⟩] scope pos) (some (.Name y py)) spos.line X.env = pure true) (hi : PI X (.Tuple es k px) iter (wiK κ (tVar i0))) (ok : BlkOk X.N X.env.scope scope own) (hio : ∀ i ∈ is, i ∈ own.map (·.2))
    (hg : ∀ (s : Shared) (H : Hp) (C : Addr) (cl : List (Str × Addr)) (fp : List Addr), PG (X.blk s H scope (compEnvC scope cl C X.env) fp) (.Tuple es k px) (gTupN X.K is))
    (ht : ∀ (H0 : Hp) (s : Shared) (H : Hp) (C : Addr) (cl : List (Str × Addr)) (fp : List Addr), PTs (X.blk s H scope (compEnvC scope cl C X.env) fp) ifs (tt H0)) (hti : ∀ H0 σ H Q, cT ({ B with H0 := H0 } : Bs).mute fc σ H Q → tt H0 σ H Q)
    (he : ∀ (H0 : Hp) (s : Shared) (H : Hp) (C : Addr) (cl : List (Str × Addr)) (fp : List Addr), PE (X.blk s H scope (compEnvC scope cl C X.env) fp) elt (cE ({ B with H0 := H0 } : Bs).mute fe)) (hs : ∀ x, foldedSetIterable iter X.env x = pure x := by intro _; rfl) (hme : B.free (own.map (·.2)) = true := by rfl) (hmj : B.free [j] = true := by rfl) :
    PS X (.Assign [.Name y py] (.ListComp elt [⟨.Tuple es k px, iter, ifs, 0⟩] scope pos) spos) (cS B (sAs j (evLcD κ i0 (tgT is) fc fe (own.map (·.2))))) :=
  es_asD (ps_setLc (g := gTupN X.K is) hc hN hy hyl hsw hi ok hg (fun s H C cl fp => pts_ex fun H0 => ht H0 s H C cl fp) (fun s H C cl fp => pe_ex fun H0 => he H0 s H C cl fp) hs) (fun σ H Q h => lc_runD hme hti (fun _ _ _ _ z => z) _ (fun H0 => gg_tup (B := { B with H0 := H0 }) hme hio) h) hmj
end
end Fw

/- part FwU -/
namespace Fw
open PySem PySem.Spec PyProof.Rows L2
def opSub : List D → Option D := opI2 yesC fun i j => i - j
theorem opSub_S {B : Bs} : OpS B (rr2 (rI0 fun i j => .int (i - j))) opSub := opI2_0
def opFd : List D → Option D := opI2 (fun _ j => decide (0 < j) && decide (j < 1073741824)) fun i j => i / j
theorem opFd_S {B : Bs} : OpS B (rr2 (rI CDiv fun i j => .int (i / j))) opFd := opI2_S fun i j h => by
  simp only [Bool.and_eq_true, decide_eq_true_eq] at h
  exact h
def opMd : List D → Option D := opI2 (fun _ j => decide (0 < j)) fun i j => i % j
theorem opMd_S {B : Bs} : OpS B (rr2 (rI (fun _ j => 0 < j) fun i j => .int (i % j))) opMd := opI2_S fun i j h => by simpa using h
def opLt : List D → Option D := opC2 fun i j => decide (i < j)
def opLe : List D → Option D := opC2 fun i j => decide (i ≤ j)
def opGt : List D → Option D := opC2 fun i j => decide (j < i)
def opGe : List D → Option D := opC2 fun i j => decide (j ≤ i)
theorem opLt_S {B : Bs} : OpS B (rr2 (rI0 fun i j => .bl (decide (i < j)))) opLt := opC2_S
theorem opLe_S {B : Bs} : OpS B (rr2 (rI0 fun i j => .bl (decide (i ≤ j)))) opLe := opC2_S
theorem opGt_S {B : Bs} : OpS B (rr2 (rI0 fun i j => .bl (decide (j < i)))) opGt := opC2_S
theorem opGe_S {B : Bs} : OpS B (rr2 (rI0 fun i j => .bl (decide (j ≤ i)))) opGe := opC2_S
theorem dpInts {K : PySem.W.Frag} {H : Hp} : ∀ ns : List Int, DpAll K H (ns.map V.int) (ns.map PyData.int)
  | [] => .nil
  | n :: ns => .cons (.int n) (dpInts ns)
theorem depthAll_ints : ∀ ns : List Int, PyData.depthAll (ns.map PyData.int) = 0
  | [] => by simp [PyData.depthAll]
  | n :: ns => by simp [PyData.depthAll, PyData.depth, depthAll_ints ns]
theorem canLay_ints : ∀ ns : List Int, PyData.canLayAll0 (ns.map PyData.int) = true
  | [] => by simp [PyData.canLayAll0]
  | n :: ns => by simp [PyData.canLayAll0, PyData.canLay0, canLay_ints ns]
theorem shaped_ints (ns : List Int) : SeqAt.shaped (.list (ns.map PyData.int)) = true := by
  unfold SeqAt.shaped
  rw [PyData.canLay0, canLay_ints, PyData.depth, depthAll_ints]
  rfl
theorem eqv_nil (ns : List Int) : PyData.eqv (.list (ns.map PyData.int)) (.list []) = decide (ns = []) := by
  cases ns <;> simp [PyData.eqv, PyData.eqvAll]
theorem hlen_only {H : Hp} (h : Only H) : HLen H := fun a vs e => by
  rcases h a with z | ⟨o, xs, z⟩
  · rw [z] at e; rcases e with e | e <;> cases e
  · rw [z] at e; rcases e with e | e <;> cases e
/-- a def of which nothing is said -/
theorem cal_no {P : Program} {w : World} {K : PySem.W.Frag} {mg : Str → Option Value} {base : Heap} {x qual : Str} {st : Stmt} {f : Addr} {fd : FuncData} {ps : List Str} {k n : Nat} (F : Fun K x qual st f fd) (hm : mg x = some (.ref f)) (b : Binds K fd ps []) (hn : ps.length = n) :
    CalOk P w K mg base k x n (fun _ _ => .no) := ⟨f, fd, ps, hm, F.kp, b, ⟨fun vs H Q E h => h.1.trans hn.symm, fun A outer s H args us vs Q E hr e0 hb rv h => by
  obtain ⟨_, _, _, _, _, _, _, _, _, _, _, z⟩ := h
  exact z.elim⟩⟩
theorem cx_no {P : Program} {w : World} {H : Hp} {s : Shared} {e : Value} {s' : Shared} (z : L2.CX P w [] H s (fun _ _ _ => False) e s') : False := by
  obtain ⟨_, _, _, _, _, _, _, _, _, _, _, _, z⟩ := z
  exact z
end Fw

/- part FwV -/
namespace Fw
open PySem L2
/-! ### meanings run step by step: what stands behind a stop is kept from being opened -/
def bdK {α β : Type} (f : α → En → Out β) (o : Out α) : Out β := o.bind f
@[simp] theorem bdK_ok {α β : Type} (f : α → En → Out β) (a : α) (ρ : En) : bdK f (.ok a ρ) = f a ρ := (rfl)
@[simp] theorem bdK_ex {α β : Type} (f : α → En → Out β) (x : Exc) (ρ : En) : bdK f (.ex x ρ : Out α) = .ex x ρ := (rfl)

def varK (i : Nat) (ρ : En) : Option Sv → Out D
  | some (.sh d) => .ok d ρ
  | some (.ow d) => .ok (frz d) { ρ with vs := ρ.vs.set i (.sh (frz d)) }
  | _ => .no
@[simp] theorem evVar_eq (i : Nat) (vs : List Sv) (st : RSt) : evVar i ⟨vs, st⟩ = varK i ⟨vs, st⟩ vs[i]? := by
  unfold evVar varK; rfl
@[simp] theorem varK_sh (i : Nat) (ρ : En) (d : D) : varK i ρ (some (.sh d)) = .ok d ρ := (rfl)
@[simp] theorem varK_ow (i : Nat) (vs : List Sv) (st : RSt) (d : D) : varK i ⟨vs, st⟩ (some (.ow d)) = .ok (frz d) ⟨vs.set i (.sh (frz d)), st⟩ := (rfl)
def movK (i : Nat) (ρ : En) : Option Sv → Out D
  | some (.sh d) => .ok d ρ
  | some (.ow d) => .ok d { ρ with vs := ρ.vs.set i .no }
  | _ => .no
@[simp] theorem evMove_eq (i : Nat) (vs : List Sv) (st : RSt) : evMove i ⟨vs, st⟩ = movK i ⟨vs, st⟩ vs[i]? := by
  unfold evMove movK; rfl
@[simp] theorem movK_sh (i : Nat) (ρ : En) (d : D) : movK i ρ (some (.sh d)) = .ok d ρ := (rfl)
@[simp] theorem movK_ow (i : Nat) (vs : List Sv) (st : RSt) (d : D) : movK i ⟨vs, st⟩ (some (.ow d)) = .ok d ⟨vs.set i .no, st⟩ := (rfl)
@[simp] theorem evC_eq (d : D) (ρ : En) : evC d ρ = .ok d ρ := (rfl)
@[simp] theorem evYes_eq (ρ : En) : evYes ρ = .ok true ρ := (rfl)

/-! operands -/
def opsK1 (ps : List Opd) : Out D → Out (List D)
  | .ok d ρ => (evOps ps ρ).bind fun ds ρ2 => .ok (d :: ds) ρ2
  | .ex x ρ => .ex x ρ
  | .no => .no
def opsK2 (d : D) : Out (List D) → Out (List D)
  | .ok ds ρ => .ok (d :: ds) ρ
  | .ex x ρ => .ex x ρ
  | .no => .no
def opsK3 (i : Nat) (ps : List Opd) (ρ : En) : Option D → Out (List D)
  | some _ => (evOps ps ρ).bind fun ds ρ2 => match ρ2.vs[i]?.bind Sv.get? with
      | some d => .ok (d :: ds) ρ2
      | none => .no
  | none => .no
def opsK4 (i : Nat) : Out (List D) → Out (List D)
  | .ok ds ρ2 => match ρ2.vs[i]?.bind Sv.get? with
      | some d => .ok (d :: ds) ρ2
      | none => .no
  | .ex x ρ => .ex x ρ
  | .no => .no
def opsK5 (ds : List D) (ρ : En) : Option D → Out (List D)
  | some d => .ok (d :: ds) ρ
  | none => .no
@[simp] theorem evOps_nil (ρ : En) : evOps [] ρ = .ok [] ρ := (rfl)
@[simp] theorem evOps_val (f : En → Out D) (ps : List Opd) (ρ : En) : evOps (.val f :: ps) ρ = opsK1 ps (f ρ) := by
  rw [evOps]; cases f ρ <;> rfl
@[simp] theorem opsK1_ok (ps : List Opd) (d : D) (ρ : En) : opsK1 ps (.ok d ρ) = opsK2 d (evOps ps ρ) := by
  rw [opsK1]; cases evOps ps ρ <;> rfl
@[simp] theorem opsK1_ex (ps : List Opd) (d : Exc) (ρ : En) : opsK1 ps (.ex d ρ) = .ex d ρ := (rfl)
@[simp] theorem opsK2_ok (d : D) (ds : List D) (ρ : En) : opsK2 d (.ok ds ρ) = .ok (d :: ds) ρ := (rfl)
@[simp] theorem opsK2_ex (d : D) (x : Exc) (ρ : En) : opsK2 d (.ex x ρ) = .ex x ρ := (rfl)
@[simp] theorem evOps_var (i : Nat) (ps : List Opd) (vs : List Sv) (st : RSt) : evOps (.var i :: ps) ⟨vs, st⟩ = opsK3 i ps ⟨vs, st⟩ (vs[i]?.bind Sv.get?) := by
  rw [evOps, opsK3.eq_def]; cases vs[i]?.bind Sv.get? <;> rfl
@[simp] theorem opsK3_some (i : Nat) (ps : List Opd) (ρ : En) (d : D) : opsK3 i ps ρ (some d) = opsK4 i (evOps ps ρ) := by
  rw [opsK3]; cases evOps ps ρ <;> rfl
@[simp] theorem opsK4_ok (i : Nat) (ds : List D) (vs : List Sv) (st : RSt) : opsK4 i (.ok ds ⟨vs, st⟩) = opsK5 ds ⟨vs, st⟩ (vs[i]?.bind Sv.get?) := by
  rw [opsK4, opsK5.eq_def]
  first | done | (cases vs[i]?.bind Sv.get? <;> rfl)
@[simp] theorem opsK4_ex (i : Nat) (x : Exc) (ρ : En) : opsK4 i (.ex x ρ) = .ex x ρ := (rfl)
@[simp] theorem opsK5_some (ds : List D) (ρ : En) (d : D) : opsK5 ds ρ (some d) = .ok (d :: ds) ρ := (rfl)
@[simp] theorem get_sh (d : D) : (Sv.sh d).get? = some d := (rfl)
@[simp] theorem get_ow (d : D) : (Sv.ow d).get? = some d := (rfl)
@[simp] theorem get_no : (Sv.no).get? = none := (rfl)

def opK (op : List D → Option D) : Out (List D) → Out D
  | .ok ds ρ => match op ds with
    | some d => .ok d ρ
    | none => .no
  | .ex x ρ => .ex x ρ
  | .no => .no
def odK (ρ : En) : Option D → Out D
  | some d => .ok d ρ
  | none => .no
@[simp] theorem evOp_eq (ps : List Opd) (op : List D → Option D) (ρ : En) : evOp ps op ρ = opK op (evOps ps ρ) := by
  rw [evOp]; cases evOps ps ρ <;> rfl
@[simp] theorem opK_ok (op : List D → Option D) (ds : List D) (ρ : En) : opK op (.ok ds ρ) = odK ρ (op ds) := by
  rw [opK, odK.eq_def]; first | done | (cases op ds <;> rfl)
@[simp] theorem opK_ex (op : List D → Option D) (x : Exc) (ρ : En) : opK op (.ex x ρ) = .ex x ρ := (rfl)
@[simp] theorem odK_some (ρ : En) (d : D) : odK ρ (some d) = .ok d ρ := (rfl)
def otK (op : List D → Option D) : Out (List D) → Out Bool
  | .ok ds ρ => match op ds with
    | some (.bl b) => .ok b ρ
    | _ => .no
  | .ex x ρ => .ex x ρ
  | .no => .no
def obK (ρ : En) : Option D → Out Bool
  | some (.bl b) => .ok b ρ
  | _ => .no
@[simp] theorem evTOp_eq (ps : List Opd) (op : List D → Option D) (ρ : En) : evTOp ps op ρ = otK op (evOps ps ρ) := by
  rw [evTOp]; cases evOps ps ρ <;> rfl
@[simp] theorem otK_ok (op : List D → Option D) (ds : List D) (ρ : En) : otK op (.ok ds ρ) = obK ρ (op ds) := by
  rw [otK, obK.eq_def]
@[simp] theorem obK_some (ρ : En) (b : Bool) : obK ρ (some (.bl b)) = .ok b ρ := (rfl)
def tK : Out D → Out Bool
  | .ok (.bl b) ρ => .ok b ρ
  | .ex x ρ => .ex x ρ
  | _ => .no
@[simp] theorem evT_eq (f : En → Out D) (ρ : En) : evT f ρ = tK (f ρ) := by
  rw [evT]; cases f ρ with
  | ok d ρ => cases d <;> rfl
  | _ => rfl
@[simp] theorem tK_ok (b : Bool) (ρ : En) : tK (.ok (.bl b) ρ) = .ok b ρ := (rfl)
@[simp] theorem tK_ex (x : Exc) (ρ : En) : tK (.ex x ρ) = .ex x ρ := (rfl)
def tnK : Out Bool → Out Bool
  | .ok b ρ => .ok (!b) ρ
  | .ex x ρ => .ex x ρ
  | .no => .no
@[simp] theorem evTNot_eq (f : En → Out Bool) (ρ : En) : evTNot f ρ = tnK (f ρ) := by
  rw [evTNot]; cases f ρ <;> rfl
@[simp] theorem tnK_ok (b : Bool) (ρ : En) : tnK (.ok b ρ) = .ok (!b) ρ := (rfl)
@[simp] theorem tnK_ex (x : Exc) (ρ : En) : tnK (.ex x ρ) = .ex x ρ := (rfl)
def taK (g : En → Out Bool) : Out Bool → Out Bool
  | .ok true ρ => g ρ
  | .ok false ρ => .ok false ρ
  | .ex x ρ => .ex x ρ
  | .no => .no
@[simp] theorem evTAnd_eq (f g : En → Out Bool) (ρ : En) : evTAnd f g ρ = taK g (f ρ) := by
  rw [evTAnd]; cases f ρ with
  | ok b ρ => cases b <;> rfl
  | _ => rfl
@[simp] theorem taK_t (g : En → Out Bool) (ρ : En) : taK g (.ok true ρ) = g ρ := (rfl)
@[simp] theorem taK_f (g : En → Out Bool) (ρ : En) : taK g (.ok false ρ) = .ok false ρ := (rfl)
theorem taK_and {g : En → Out Bool} {ρ : En} {b c : Bool} (h : g ρ = .ok c ρ) : taK g (.ok b ρ) = .ok (b && c) ρ := by cases b <;> simp [h]
def toK (g : En → Out Bool) : Out Bool → Out Bool
  | .ok true ρ => .ok true ρ
  | .ok false ρ => g ρ
  | .ex x ρ => .ex x ρ
  | .no => .no
@[simp] theorem evTOr_eq (f g : En → Out Bool) (ρ : En) : evTOr f g ρ = toK g (f ρ) := by
  rw [evTOr]; cases f ρ with
  | ok b ρ => cases b <;> rfl
  | _ => rfl
@[simp] theorem toK_t (g : En → Out Bool) (ρ : En) : toK g (.ok true ρ) = .ok true ρ := (rfl)
@[simp] theorem toK_f (g : En → Out Bool) (ρ : En) : toK g (.ok false ρ) = g ρ := (rfl)
theorem toK_or {g : En → Out Bool} {ρ : En} {b c : Bool} (h : g ρ = .ok c ρ) : toK g (.ok b ρ) = .ok (b || c) ρ := by cases b <;> simp [h]
def vaK (g : En → Out D) : Out D → Out D
  | .ok (.bl true) ρ => g ρ
  | .ok (.bl false) ρ => .ok (.bl false) ρ
  | .ex x ρ => .ex x ρ
  | _ => .no
@[simp] theorem evAnd_eq (f g : En → Out D) (ρ : En) : evAnd f g ρ = vaK g (f ρ) := by
  rw [evAnd]; cases f ρ with
  | ok d ρ => cases d <;> (try rfl); rename_i b; cases b <;> rfl
  | _ => rfl
@[simp] theorem vaK_t (g : En → Out D) (ρ : En) : vaK g (.ok (.bl true) ρ) = g ρ := (rfl)
@[simp] theorem vaK_f (g : En → Out D) (ρ : En) : vaK g (.ok (.bl false) ρ) = .ok (.bl false) ρ := (rfl)
theorem vaK_and {g : En → Out D} {ρ : En} {b c : Bool} (h : g ρ = .ok (.bl c) ρ) : vaK g (.ok (.bl b) ρ) = .ok (.bl (b && c)) ρ := by cases b <;> simp [h]
def voK (g : En → Out D) : Out D → Out D
  | .ok (.bl true) ρ => .ok (.bl true) ρ
  | .ok (.bl false) ρ => g ρ
  | .ex x ρ => .ex x ρ
  | _ => .no
@[simp] theorem evOr_eq (f g : En → Out D) (ρ : En) : evOr f g ρ = voK g (f ρ) := by
  rw [evOr]; cases f ρ with
  | ok d ρ => cases d <;> (try rfl); rename_i b; cases b <;> rfl
  | _ => rfl
@[simp] theorem voK_t (g : En → Out D) (ρ : En) : voK g (.ok (.bl true) ρ) = .ok (.bl true) ρ := (rfl)
@[simp] theorem voK_f (g : En → Out D) (ρ : En) : voK g (.ok (.bl false) ρ) = g ρ := (rfl)
def vnK : Out D → Out D
  | .ok (.bl b) ρ => .ok (.bl (!b)) ρ
  | .ex x ρ => .ex x ρ
  | _ => .no
@[simp] theorem evNot_eq (f : En → Out D) (ρ : En) : evNot f ρ = vnK (f ρ) := by
  rw [evNot]; cases f ρ with
  | ok d ρ => cases d <;> rfl
  | _ => rfl
@[simp] theorem vnK_b (b : Bool) (ρ : En) : vnK (.ok (.bl b) ρ) = .ok (.bl (!b)) ρ := (rfl)
def eiK (f g : En → Out D) : Out Bool → Out D
  | .ok true ρ => f ρ
  | .ok false ρ => g ρ
  | .ex x ρ => .ex x ρ
  | .no => .no
@[simp] theorem evIf_eq (c : En → Out Bool) (f g : En → Out D) (ρ : En) : evIf c f g ρ = eiK f g (c ρ) := by
  rw [evIf]; cases c ρ with
  | ok b ρ => cases b <;> rfl
  | _ => rfl
@[simp] theorem eiK_t (f g : En → Out D) (ρ : En) : eiK f g (.ok true ρ) = f ρ := (rfl)
@[simp] theorem eiK_f (f g : En → Out D) (ρ : En) : eiK f g (.ok false ρ) = g ρ := (rfl)
@[simp] theorem eiK_x (f g : En → Out D) (x : Exc) (ρ : En) : eiK f g (.ex x ρ) = .ex x ρ := (rfl)
theorem eiK_ite {f g : En → Out D} {ρ : En} {b : Bool} {x y : D} (h1 : b = true → f ρ = .ok x ρ) (h2 : b = false → g ρ = .ok y ρ) : eiK f g (.ok b ρ) = .ok (if b = true then x else y) ρ := by
  cases b <;> simp [h1, h2]

/-! displays -/
def tupK : Out (List D) → Out D
  | .ok ds ρ => .ok (.tup ds) ρ
  | .ex x ρ => .ex x ρ
  | .no => .no
def lstK : Out (List D) → Out D
  | .ok ds ρ => .ok (.lst true ds) ρ
  | .ex x ρ => .ex x ρ
  | .no => .no
@[simp] theorem evTup_eq (fs : List (En → Out D)) (ρ : En) : evTup fs ρ = tupK (evOps (fs.map Opd.val) ρ) := by
  rw [evTup]; cases evOps (fs.map Opd.val) ρ <;> rfl
@[simp] theorem evLst_eq (fs : List (En → Out D)) (ρ : En) : evLst fs ρ = lstK (evOps (fs.map Opd.val) ρ) := by
  rw [evLst]; cases evOps (fs.map Opd.val) ρ <;> rfl
@[simp] theorem tupK_ok (ds : List D) (ρ : En) : tupK (.ok ds ρ) = .ok (.tup ds) ρ := (rfl)
@[simp] theorem tupK_ex (x : Exc) (ρ : En) : tupK (.ex x ρ) = .ex x ρ := (rfl)
@[simp] theorem lstK_ok (ds : List D) (ρ : En) : lstK (.ok ds ρ) = .ok (.lst true ds) ρ := (rfl)
@[simp] theorem lstK_ex (x : Exc) (ρ : En) : lstK (.ex x ρ) = .ex x ρ := (rfl)
@[simp] theorem evNewK_eq (ρ : En) : evNewK ρ = .ok (.dk true [] []) ρ := (rfl)

/-! statements -/
def sqK (g : En → Out Fl) : Out Fl → Out Fl
  | .ok .nx ρ => g ρ
  | .ok (.rt d) ρ => .ok (.rt d) ρ
  | .ok .bk ρ => .ok .bk ρ
  | .ok .ct ρ => .ok .ct ρ
  | .ex x ρ => .ex x ρ
  | .no => .no
@[simp] theorem nxS_eq (ρ : En) : nxS ρ = .ok .nx ρ := (rfl)
@[simp] theorem bkS_eq (ρ : En) : bkS ρ = .ok .bk ρ := (rfl)
@[simp] theorem ctS_eq (ρ : En) : ctS ρ = .ok .ct ρ := (rfl)
@[simp] theorem sqS_eq (f g : En → Out Fl) (ρ : En) : sqS f g ρ = sqK g (f ρ) := by
  rw [sqS]; cases f ρ with
  | ok d ρ => cases d <;> rfl
  | _ => rfl
@[simp] theorem sqK_nx (g : En → Out Fl) (ρ : En) : sqK g (.ok .nx ρ) = g ρ := (rfl)
@[simp] theorem sqK_rt (g : En → Out Fl) (d : D) (ρ : En) : sqK g (.ok (.rt d) ρ) = .ok (.rt d) ρ := (rfl)
@[simp] theorem sqK_bk (g : En → Out Fl) (ρ : En) : sqK g (.ok .bk ρ) = .ok .bk ρ := (rfl)
@[simp] theorem sqK_ct (g : En → Out Fl) (ρ : En) : sqK g (.ok .ct ρ) = .ok .ct ρ := (rfl)
@[simp] theorem sqK_ex (g : En → Out Fl) (x : Exc) (ρ : En) : sqK g (.ex x ρ) = .ex x ρ := (rfl)
def retK : Out D → Out Fl
  | .ok d ρ => .ok (.rt d) ρ
  | .ex x ρ => .ex x ρ
  | .no => .no
@[simp] theorem sRet_eq (f : En → Out D) (ρ : En) : sRet f ρ = retK (f ρ) := by rw [sRet]; cases f ρ <;> rfl
@[simp] theorem retK_ok (d : D) (ρ : En) : retK (.ok d ρ) = .ok (.rt d) ρ := (rfl)
@[simp] theorem retK_ex (x : Exc) (ρ : En) : retK (.ex x ρ) = .ex x ρ := (rfl)
@[simp] theorem sRetN_eq (ρ : En) : sRetN ρ = .ok (.rt .non) ρ := (rfl)
def dropK : Out D → Out Fl
  | .ok d ρ => .ok .nx ρ
  | .ex x ρ => .ex x ρ
  | .no => .no
@[simp] theorem sDrop_eq (f : En → Out D) (ρ : En) : sDrop f ρ = dropK (f ρ) := by rw [sDrop]; cases f ρ <;> rfl
@[simp] theorem dropK_ok (d : D) (ρ : En) : dropK (.ok d ρ) = .ok .nx ρ := (rfl)
@[simp] theorem dropK_ex (x : Exc) (ρ : En) : dropK (.ex x ρ) = .ex x ρ := (rfl)
def ifK (f g : En → Out Fl) : Out Bool → Out Fl
  | .ok true ρ => f ρ
  | .ok false ρ => g ρ
  | .ex x ρ => .ex x ρ
  | .no => .no
@[simp] theorem sIf_eq (c : En → Out Bool) (f g : En → Out Fl) (ρ : En) : sIf c f g ρ = ifK f g (c ρ) := by
  rw [sIf]; cases c ρ with
  | ok b ρ => cases b <;> rfl
  | _ => rfl
@[simp] theorem ifK_t (f g : En → Out Fl) (ρ : En) : ifK f g (.ok true ρ) = f ρ := (rfl)
@[simp] theorem ifK_f (f g : En → Out Fl) (ρ : En) : ifK f g (.ok false ρ) = g ρ := (rfl)
@[simp] theorem ifK_ex (f g : En → Out Fl) (x : Exc) (ρ : En) : ifK f g (.ex x ρ) = .ex x ρ := (rfl)
def asK (i : Nat) : Out D → Out Fl
  | .ok d ρ => .ok .nx { ρ with vs := ρ.vs.set i (mkSv d) }
  | .ex x ρ => .ex x ρ
  | .no => .no
@[simp] theorem sAs_eq (i : Nat) (f : En → Out D) (ρ : En) : sAs i f ρ = asK i (f ρ) := by rw [sAs]; cases f ρ <;> rfl
@[simp] theorem asK_ok (i : Nat) (d : D) (vs : List Sv) (st : RSt) : asK i (.ok d ⟨vs, st⟩) = .ok .nx ⟨vs.set i (mkSv d), st⟩ := (rfl)
@[simp] theorem asK_ex (i : Nat) (x : Exc) (ρ : En) : asK i (.ex x ρ) = .ex x ρ := (rfl)
@[simp] theorem mkSv_eq (d : D) : mkSv d = if shr d = true then .sh d else .ow d := (rfl)
def someK (o : Option En) : Out Fl := match o with
  | some ρ => .ok .nx ρ
  | none => .no
@[simp] theorem someK_some (ρ : En) : someK (some ρ) = .ok .nx ρ := (rfl)
def astK (t : D → En → Option En) : Out D → Out Fl
  | .ok d ρ => someK (t d ρ)
  | .ex x ρ => .ex x ρ
  | .no => .no
@[simp] theorem sAsT_eq (t : D → En → Option En) (f : En → Out D) (ρ : En) : sAsT t f ρ = astK t (f ρ) := by
  rw [sAsT]; cases f ρ with
  | ok d ρ => simp only [Out.bind, astK]; cases t d ρ <;> rfl
  | _ => rfl
@[simp] theorem astK_ok (t : D → En → Option En) (d : D) (ρ : En) : astK t (.ok d ρ) = someK (t d ρ) := (rfl)
@[simp] theorem astK_ex (t : D → En → Option En) (x : Exc) (ρ : En) : astK t (.ex x ρ) = .ex x ρ := (rfl)
@[simp] theorem tgN_eq (i : Nat) (d : D) (vs : List Sv) (st : RSt) : tgN i d ⟨vs, st⟩ = some ⟨vs.set i (mkSv d), st⟩ := (rfl)
def tgK (is : List Nat) (ρ : En) : D → Option En
  | .tup ds => (setsh ρ.vs is ds).map fun vs => { ρ with vs := vs }
  | _ => none
@[simp] theorem tgT_eq (is : List Nat) (d : D) (ρ : En) : tgT is d ρ = tgK is ρ (fz d) := by
  rw [tgT, tgK.eq_def] <;> rfl
@[simp] theorem tgK_tup (is : List Nat) (vs : List Sv) (st : RSt) (ds : List D) : tgK is ⟨vs, st⟩ (.tup ds) = (setsh vs is ds).map fun vs => ⟨vs, st⟩ := (rfl)
@[simp] theorem setsh_nil (vs : List Sv) : setsh vs [] [] = some vs := (rfl)
@[simp] theorem setsh_cons (vs : List Sv) (i : Nat) (is : List Nat) (d : D) (ds : List D) : setsh vs (i :: is) (d :: ds) = setsh (vs.set i (.sh d)) is ds := (rfl)
@[simp] theorem fgt_nil (vs : List Sv) : fgt vs [] = vs := (rfl)
@[simp] theorem fgt_cons (vs : List Sv) (i : Nat) (is : List Nat) : fgt vs (i :: is) = fgt (vs.set i .no) is := (rfl)

/-! loops -/
def forK (t : D → En → Option En) (body : En → Out Fl) (fg : List Nat) : Out (List D) → Out Fl
  | .ok ds ρ => forL t body fg ds ρ
  | .ex x ρ => .ex x ρ
  | .no => .no
@[simp] theorem sFor_eq (it : En → Out (List D)) (t : D → En → Option En) (body : En → Out Fl) (fg : List Nat) (ρ : En) : sFor it t body fg ρ = forK t body fg (it ρ) := by
  rw [sFor]; cases it ρ <;> rfl
@[simp] theorem forK_ok (t : D → En → Option En) (body : En → Out Fl) (fg : List Nat) (ds : List D) (ρ : En) : forK t body fg (.ok ds ρ) = forL t body fg ds ρ := (rfl)
@[simp] theorem forK_ex (t : D → En → Option En) (body : En → Out Fl) (fg : List Nat) (x : Exc) (ρ : En) : forK t body fg (.ex x ρ) = .ex x ρ := (rfl)
@[simp] theorem forL_nil (t : D → En → Option En) (body : En → Out Fl) (fg : List Nat) (ρ : En) : forL t body fg [] ρ = .ok .nx ρ := (rfl)
def flK (t : D → En → Option En) (body : En → Out Fl) (fg : List Nat) (ds : List D) : Out Fl → Out Fl
  | .ok .nx ρ2 => forL t body fg ds { ρ2 with vs := fgt ρ2.vs fg }
  | .ok .ct ρ2 => forL t body fg ds { ρ2 with vs := fgt ρ2.vs fg }
  | .ok .bk ρ2 => .ok .nx ρ2
  | .ok (.rt d) ρ2 => .ok (.rt d) ρ2
  | .ex x ρ => .ex x ρ
  | .no => .no
def flKo (t : D → En → Option En) (body : En → Out Fl) (fg : List Nat) (ds : List D) : Option En → Out Fl
  | some ρ1 => flK t body fg ds (body ρ1)
  | none => .no
theorem forL_cons (t : D → En → Option En) (body : En → Out Fl) (fg : List Nat) (d : D) (ds : List D) (ρ : En) : forL t body fg (d :: ds) ρ = flKo t body fg ds (t d ρ) := by
  rw [forL]; cases t d ρ with
  | none => rfl
  | some ρ1 =>
    simp only [flKo]
    cases body ρ1 with
    | ok fl ρ => cases fl <;> rfl
    | _ => rfl
@[simp] theorem flKo_some (t : D → En → Option En) (body : En → Out Fl) (fg : List Nat) (ds : List D) (ρ1 : En) : flKo t body fg ds (some ρ1) = flK t body fg ds (body ρ1) := (rfl)
@[simp] theorem flK_nx (t : D → En → Option En) (body : En → Out Fl) (fg : List Nat) (ds : List D) (vs : List Sv) (st : RSt) : flK t body fg ds (.ok .nx ⟨vs, st⟩) = forL t body fg ds ⟨fgt vs fg, st⟩ := (rfl)
@[simp] theorem flK_ct (t : D → En → Option En) (body : En → Out Fl) (fg : List Nat) (ds : List D) (vs : List Sv) (st : RSt) : flK t body fg ds (.ok .ct ⟨vs, st⟩) = forL t body fg ds ⟨fgt vs fg, st⟩ := (rfl)
@[simp] theorem flK_bk (t : D → En → Option En) (body : En → Out Fl) (fg : List Nat) (ds : List D) (ρ : En) : flK t body fg ds (.ok .bk ρ) = .ok .nx ρ := (rfl)
@[simp] theorem flK_rt (t : D → En → Option En) (body : En → Out Fl) (fg : List Nat) (ds : List D) (d : D) (ρ : En) : flK t body fg ds (.ok (.rt d) ρ) = .ok (.rt d) ρ := (rfl)
@[simp] theorem flK_ex (t : D → En → Option En) (body : En → Out Fl) (fg : List Nat) (ds : List D) (x : Exc) (ρ : En) : flK t body fg ds (.ex x ρ) = .ex x ρ := (rfl)
def lcK (t : D → En → Option En) (c : En → Out Bool) (elt : En → Out D) (own : List Nat) : Out (List D) → Out D
  | .ok ds ρ' => lstK (lcL t c elt own ds { ρ' with vs := fgt ρ'.vs own })
  | .ex x ρ => .ex x ρ
  | .no => .no
@[simp] theorem evLc_eq (it : En → Out (List D)) (t : D → En → Option En) (c : En → Out Bool) (elt : En → Out D) (own : List Nat) (ρ : En) : evLc it t c elt own ρ = lcK t c elt own (it ρ) := by
  rw [evLc]; cases it ρ with
  | ok ds ρ' => simp only [Out.bind, lcK]; cases lcL t c elt own ds { ρ' with vs := fgt ρ'.vs own } <;> rfl
  | _ => rfl
@[simp] theorem lcK_ok (t : D → En → Option En) (c : En → Out Bool) (elt : En → Out D) (own : List Nat) (ds : List D) (vs : List Sv) (st : RSt) : lcK t c elt own (.ok ds ⟨vs, st⟩) = lstK (lcL t c elt own ds ⟨fgt vs own, st⟩) := (rfl)
@[simp] theorem lcL_nil (t : D → En → Option En) (c : En → Out Bool) (elt : En → Out D) (own : List Nat) (ρ : En) : lcL t c elt own [] ρ = .ok [] ρ := (rfl)
def seqK : Out D → Out (List D)
  | .ok d ρ => match seqOf d with
    | some p => .ok p.2 ρ
    | none => .no
  | .ex x ρ => .ex x ρ
  | .no => .no
def sqoK (ρ : En) : Option (Bool × List D) → Out (List D)
  | some p => .ok p.2 ρ
  | none => .no
@[simp] theorem itSeq_eq (f : En → Out D) (ρ : En) : itSeq f ρ = seqK (f ρ) := by rw [itSeq]; cases f ρ <;> rfl
@[simp] theorem seqK_ok (d : D) (ρ : En) : seqK (.ok d ρ) = sqoK ρ (seqOf d) := by rw [seqK, sqoK.eq_def]; first | done | (cases seqOf d <;> rfl)
@[simp] theorem seqK_ex (x : Exc) (ρ : En) : seqK (.ex x ρ) = .ex x ρ := (rfl)
@[simp] theorem sqoK_some (ρ : En) (p : Bool × List D) : sqoK ρ (some p) = .ok p.2 ρ := (rfl)
def rgK : Out (List D) → Out (List D)
  | .ok [.int j] ρ' => if rgOk 0 j = true then .ok (rgD 0 j) ρ' else .no
  | .ok [.int i, .int j] ρ' => if rgOk i j = true then .ok (rgD i j) ρ' else .no
  | .ex x ρ => .ex x ρ
  | _ => .no
@[simp] theorem itRg_eq (ps : List Opd) (ρ : En) : itRg ps ρ = rgK (evOps ps ρ) := by
  rw [itRg]; cases evOps ps ρ with
  | ok ds ρ => simp only [Out.bind]; unfold rgK; split <;> simp_all
  | _ => rfl
theorem rgK_1 (j : Int) (ρ : En) : rgK (.ok [.int j] ρ) = if rgOk 0 j = true then .ok (rgD 0 j) ρ else .no := rfl
theorem rgK_2 (i j : Int) (ρ : En) : rgK (.ok [.int i, .int j] ρ) = if rgOk i j = true then .ok (rgD i j) ρ else .no := rfl

/-! calls -/
def callK (den : Den) (ps : List Opd) : Out (List D) → Out D
  | .ok ds ρ' => match den (ds.map fz) ρ'.st with
    | .ok d st' => if clo d = true then .ok d { ρ' with st := st' } else .ok d { vs := frzS (isVar ps) 0 ρ'.vs, st := st' }
    | .ex x st' => .ex x { vs := frzS (isVar ps) 0 ρ'.vs, st := st' }
    | .no => .no
  | .ex x ρ => .ex x ρ
  | .no => .no
def resK (ps : List Opd) (vs : List Sv) : Res → Out D
  | .ok d st' => if clo d = true then .ok d ⟨vs, st'⟩ else .ok d ⟨frzS (isVar ps) 0 vs, st'⟩
  | .ex x st' => .ex x ⟨frzS (isVar ps) 0 vs, st'⟩
  | .no => .no
@[simp] theorem evCall_eq (den : Den) (ps : List Opd) (ρ : En) : evCall den ps ρ = callK den ps (evOps ps ρ) := by
  rw [evCall]; cases evOps ps ρ <;> rfl
@[simp] theorem callK_ok (den : Den) (ps : List Opd) (ds : List D) (vs : List Sv) (st : RSt) : callK den ps (.ok ds ⟨vs, st⟩) = resK ps vs (den (ds.map fz) st) := by
  rw [callK, resK.eq_def]
@[simp] theorem callK_ex (den : Den) (ps : List Opd) (x : Exc) (ρ : En) : callK den ps (.ex x ρ) = .ex x ρ := (rfl)
@[simp] theorem resK_ok (ps : List Opd) (vs : List Sv) (d : D) (st : RSt) : resK ps vs (.ok d st) = if clo d = true then .ok d ⟨vs, st⟩ else .ok d ⟨frzS (isVar ps) 0 vs, st⟩ := (rfl)
@[simp] theorem resK_ex (ps : List Opd) (vs : List Sv) (x : Exc) (st : RSt) : resK ps vs (.ex x st) = .ex x ⟨frzS (isVar ps) 0 vs, st⟩ := (rfl)
@[simp] theorem isVar_nil : isVar [] = [] := (rfl)
@[simp] theorem isVar_val (f : En → Out D) (ps : List Opd) : isVar (.val f :: ps) = isVar ps := (rfl)
@[simp] theorem isVar_var (i : Nat) (ps : List Opd) : isVar (.var i :: ps) = i :: isVar ps := (rfl)
@[simp] theorem frzS_nil' (is : List Nat) (n : Nat) : frzS is n [] = [] := (rfl)
@[simp] theorem frzS_cons' (is : List Nat) (n : Nat) (s : Sv) (vs : List Sv) : frzS is n (s :: vs) = (if is.contains n = true then frz1 s else s) :: frzS is (n + 1) vs := (rfl)
@[simp] theorem frz1_no : frz1 .no = .no := (rfl)
@[simp] theorem frz1_sh (d : D) : frz1 (.sh d) = .sh d := (rfl)
@[simp] theorem frz1_ow (d : D) : frz1 (.ow d) = .sh (frz d) := (rfl)
def fnK : Out Fl → Res
  | .ok .nx ρ => .ok .non ρ.st
  | .ok (.rt d) ρ => .ok d ρ.st
  | .ok _ _ => .no
  | .ex x ρ => .ex x ρ.st
  | .no => .no
theorem fnRes_eq (g : En → Out Fl) (k : Nat) (ds : List D) (st : RSt) : fnRes g k ds st = fnK (g ⟨ds.map .sh ++ List.replicate k .no, st⟩) := by
  rw [fnRes, fnK.eq_def]
  all_goals (generalize g { vs := List.map Sv.sh ds ++ List.replicate k Sv.no, st := st } = o; rcases o with ⟨fl, ρ⟩ | ⟨x, ρ⟩ | _ <;> (try cases fl) <;> rfl)
@[simp] theorem fnK_nx (vs : List Sv) (st : RSt) : fnK (.ok .nx ⟨vs, st⟩) = .ok .non st := (rfl)
@[simp] theorem fnK_rt (d : D) (vs : List Sv) (st : RSt) : fnK (.ok (.rt d) ⟨vs, st⟩) = .ok d st := (rfl)
@[simp] theorem fnK_ex (x : Exc) (vs : List Sv) (st : RSt) : fnK (.ex x ⟨vs, st⟩) = .ex x st := (rfl)

/-! methods, stores -/
def me1K (mo : List D → D → Option (List D)) (i : Nat) : Out D → Option Sv → Out Fl
  | .ok d ρ, some (.ow (.lst true ds)) => match mo ds d with
    | some ds' => .ok .nx { ρ with vs := ρ.vs.set i (.ow (.lst true ds')) }
    | none => .no
  | .ex x ρ, _ => .ex x ρ
  | _, _ => .no
@[simp] theorem me1K_ok (mo : List D → D → Option (List D)) (i : Nat) (d : D) (vs : List Sv) (st : RSt) (ds : List D) : me1K mo i (.ok d ⟨vs, st⟩) (some (.ow (.lst true ds))) = match mo ds d with
    | some ds' => .ok .nx ⟨vs.set i (.ow (.lst true ds')), st⟩
    | none => .no := rfl
def meK0 (mo : List D → D → Option (List D)) (i : Nat) : Out D → Out Fl
  | .ok d ρ' => match ρ'.vs[i]? with
    | some (.ow (.lst true ds)) => match mo ds d with
      | some ds' => .ok .nx { ρ' with vs := ρ'.vs.set i (.ow (.lst true ds')) }
      | none => .no
    | _ => .no
  | .ex x ρ => .ex x ρ
  | .no => .no
def meK1 (mo : List D → D → Option (List D)) (i : Nat) (fe : En → Out D) (ρ : En) : Option Sv → Out Fl
  | some (.ow (.lst true _)) => meK0 mo i (fe ρ)
  | _ => .no
def meK2 (mo : List D → D → Option (List D)) (i : Nat) (d : D) (ρ' : En) : Option Sv → Out Fl
  | some (.ow (.lst true ds)) => match mo ds d with
      | some ds' => .ok .nx { ρ' with vs := ρ'.vs.set i (.ow (.lst true ds')) }
      | none => .no
  | _ => .no
def meK3 (i : Nat) (ρ' : En) : Option (List D) → Out Fl
  | some ds' => .ok .nx { ρ' with vs := ρ'.vs.set i (.ow (.lst true ds')) }
  | none => .no
@[simp] theorem sMe1_eq (mo : List D → D → Option (List D)) (i : Nat) (fe : En → Out D) (vs : List Sv) (st : RSt) : sMe1 mo i fe ⟨vs, st⟩ = meK1 mo i fe ⟨vs, st⟩ vs[i]? := by
  rw [sMe1]
  dsimp only
  match vs[i]? with
  | some (.ow (.lst true ds)) =>
    rw [meK1, meK0.eq_def]
    cases fe ⟨vs, st⟩ <;> rfl
  | none => rfl
  | some .no => rfl
  | some (.sh _) => rfl
  | some (.ow (.lst false _)) => rfl
  | some (.ow .non) => rfl
  | some (.ow (.bl _)) => rfl
  | some (.ow (.int _)) => rfl
  | some (.ow (.str _)) => rfl
  | some (.ow (.tup _)) => rfl
  | some (.ow (.dk _ _ _)) => rfl
  | some (.ow (.dt _ _ _)) => rfl
  | some (.ow .rs) => rfl
  | some (.ow (.ob _ _ _ _)) => rfl
  | some (.ow (.ev _ _ _)) => rfl
@[simp] theorem meK1_ok (mo : List D → D → Option (List D)) (i : Nat) (fe : En → Out D) (ρ : En) (ds : List D) : meK1 mo i fe ρ (some (.ow (.lst true ds))) = meK0 mo i (fe ρ) := (rfl)
@[simp] theorem meK0_ok (mo : List D → D → Option (List D)) (i : Nat) (d : D) (vs : List Sv) (st : RSt) : meK0 mo i (.ok d ⟨vs, st⟩) = meK2 mo i d ⟨vs, st⟩ vs[i]? := by
  rw [meK0, meK2.eq_def]
@[simp] theorem meK0_ex (mo : List D → D → Option (List D)) (i : Nat) (x : Exc) (ρ : En) : meK0 mo i (.ex x ρ) = .ex x ρ := (rfl)
@[simp] theorem meK2_ok (mo : List D → D → Option (List D)) (i : Nat) (d : D) (ρ : En) (ds : List D) : meK2 mo i d ρ (some (.ow (.lst true ds))) = meK3 i ρ (mo ds d) := by
  rw [meK2, meK3.eq_def]
@[simp] theorem meK3_some (i : Nat) (vs : List Sv) (st : RSt) (ds : List D) : meK3 i ⟨vs, st⟩ (some ds) = .ok .nx ⟨vs.set i (.ow (.lst true ds)), st⟩ := (rfl)
def m0K (mo : List D → Option (List D)) (i : Nat) (ρ : En) : Option Sv → Out Fl
  | some (.ow (.lst true ds)) => meK3 i ρ (mo ds)
  | _ => .no
@[simp] theorem sMe0_eq (mo : List D → Option (List D)) (i : Nat) (vs : List Sv) (st : RSt) : sMe0 mo i ⟨vs, st⟩ = m0K mo i ⟨vs, st⟩ vs[i]? := by
  rw [sMe0]
  dsimp only
  match vs[i]? with
  | some (.ow (.lst true ds)) =>
    show (match mo ds with | some ds' => _ | none => _) = meK3 i _ (mo ds)
    rw [meK3.eq_def]
  | none => rfl
  | some .no => rfl
  | some (.sh _) => rfl
  | some (.ow (.lst false _)) => rfl
  | some (.ow .non) => rfl
  | some (.ow (.bl _)) => rfl
  | some (.ow (.int _)) => rfl
  | some (.ow (.str _)) => rfl
  | some (.ow (.tup _)) => rfl
  | some (.ow (.dk _ _ _)) => rfl
  | some (.ow (.dt _ _ _)) => rfl
  | some (.ow .rs) => rfl
  | some (.ow (.ob _ _ _ _)) => rfl
  | some (.ow (.ev _ _ _)) => rfl
@[simp] theorem m0K_ok (mo : List D → Option (List D)) (i : Nat) (ρ : En) (ds : List D) : m0K mo i ρ (some (.ow (.lst true ds))) = meK3 i ρ (mo ds) := (rfl)
/-- x[k] = e -/
def stK (i : Nat) (d : D) (fk : En → Out D) (ρ1 : En) : Option Sv → Out Fl
  | some (.ow _) => (fk ρ1).bind fun k ρ2 => match ρ2.vs[i]? with
    | some (.ow (.lst true ds)) => match k with
      | .int j => match ixN ds.length j with
        | some m => .ok .nx { ρ2 with vs := ρ2.vs.set i (.ow (.lst true (ds.set m d))) }
        | none => .no
      | _ => .no
    | some (.ow (.dk true ks ds)) => match keyD k with
      | some q => if ds.length < sizeLine ∧ ks.Nodup then .ok .nx { ρ2 with vs := ρ2.vs.set i (.ow (.dk true (putKs ks q) (putXs ks ds q d))) } else .no
      | none => .no
    | _ => .no
  | _ => .no
def st0 (i : Nat) (fk : En → Out D) : Out D → Out Fl
  | .ok d ρ1 => stK i d fk ρ1 ρ1.vs[i]?
  | .ex x ρ => .ex x ρ
  | .no => .no
def st1 (i : Nat) (d : D) : Out D → Out Fl
  | .ok k ρ2 => match ρ2.vs[i]? with
    | some (.ow (.lst true ds)) => match k with
      | .int j => match ixN ds.length j with
        | some m => .ok .nx { ρ2 with vs := ρ2.vs.set i (.ow (.lst true (ds.set m d))) }
        | none => .no
      | _ => .no
    | some (.ow (.dk true ks ds)) => match keyD k with
      | some q => if ds.length < sizeLine ∧ ks.Nodup then .ok .nx { ρ2 with vs := ρ2.vs.set i (.ow (.dk true (putKs ks q) (putXs ks ds q d))) } else .no
      | none => .no
    | _ => .no
  | .ex x ρ => .ex x ρ
  | .no => .no
def st2 (i : Nat) (d k : D) (ρ2 : En) : Option Sv → Out Fl
  | some (.ow (.lst true ds)) => match k with
      | .int j => match ixN ds.length j with
        | some m => .ok .nx { ρ2 with vs := ρ2.vs.set i (.ow (.lst true (ds.set m d))) }
        | none => .no
      | _ => .no
  | some (.ow (.dk true ks ds)) => match keyD k with
      | some q => if ds.length < sizeLine ∧ ks.Nodup then .ok .nx { ρ2 with vs := ρ2.vs.set i (.ow (.dk true (putKs ks q) (putXs ks ds q d))) } else .no
      | none => .no
  | _ => .no
def stn (i : Nat) (d : D) (ρ2 : En) (ds : List D) : Option Nat → Out Fl
  | some m => .ok .nx { ρ2 with vs := ρ2.vs.set i (.ow (.lst true (ds.set m d))) }
  | none => .no
def stk (i : Nat) (d : D) (ρ2 : En) (ks : List Key) (ds : List D) : Option Key → Out Fl
  | some q => if ds.length < sizeLine ∧ ks.Nodup then .ok .nx { ρ2 with vs := ρ2.vs.set i (.ow (.dk true (putKs ks q) (putXs ks ds q d))) } else .no
  | none => .no
@[simp] theorem sSet_eq (i : Nat) (fk fe : En → Out D) (ρ : En) : sSet i fk fe ρ = st0 i fk (fe ρ) := by
  rw [sSet, st0.eq_def]; cases fe ρ with
  | ok d ρ1 => rfl
  | _ => rfl
@[simp] theorem st0_ok (i : Nat) (fk : En → Out D) (d : D) (vs : List Sv) (st : RSt) : st0 i fk (.ok d ⟨vs, st⟩) = stK i d fk ⟨vs, st⟩ vs[i]? := (rfl)
@[simp] theorem st0_ex (i : Nat) (fk : En → Out D) (x : Exc) (ρ : En) : st0 i fk (.ex x ρ) = .ex x ρ := (rfl)
@[simp] theorem stK_ok (i : Nat) (d d0 : D) (fk : En → Out D) (ρ1 : En) : stK i d fk ρ1 (some (.ow d0)) = st1 i d (fk ρ1) := by
  rw [stK, st1.eq_def]; cases fk ρ1 <;> rfl
@[simp] theorem st1_ok (i : Nat) (d k : D) (vs : List Sv) (st : RSt) : st1 i d (.ok k ⟨vs, st⟩) = st2 i d k ⟨vs, st⟩ vs[i]? := by
  rw [st1, st2.eq_def]
@[simp] theorem st2_lst (i : Nat) (d : D) (j : Int) (ρ : En) (ds : List D) : st2 i d (.int j) ρ (some (.ow (.lst true ds))) = stn i d ρ ds (ixN ds.length j) := by
  rw [st2, stn.eq_def]
@[simp] theorem st2_dk (i : Nat) (d k : D) (ρ : En) (ks : List Key) (ds : List D) : st2 i d k ρ (some (.ow (.dk true ks ds))) = stk i d ρ ks ds (keyD k) := by
  rw [st2, stk.eq_def]
@[simp] theorem stn_some (i : Nat) (d : D) (vs : List Sv) (st : RSt) (ds : List D) (m : Nat) : stn i d ⟨vs, st⟩ ds (some m) = .ok .nx ⟨vs.set i (.ow (.lst true (ds.set m d))), st⟩ := (rfl)
theorem stk_some (i : Nat) (d : D) (vs : List Sv) (st : RSt) (ks : List Key) (ds : List D) (q : Key) : stk i d ⟨vs, st⟩ ks ds (some q) = if ds.length < sizeLine ∧ ks.Nodup then .ok .nx ⟨vs.set i (.ow (.dk true (putKs ks q) (putXs ks ds q d))), st⟩ else .no := (rfl)
@[simp] theorem keyD_int (i : Int) : keyD (.int i) = some (.inl i) := (rfl)
@[simp] theorem keyD_str (x : Str) : keyD (.str x) = some (.inr x) := (rfl)

/-! slices -/
def slK (lo hi : Bool) : Out (List D) → Out D
  | .ok (d :: is) ρ' => match seqOf d, intsOf is with
    | some (b, xs), some js => match lo, hi, js with
      | false, false, [] => .ok (if b = true then .lst true (cutD xs none none) else .tup (cutD xs none none)) ρ'
      | true, false, [i] => .ok (if b = true then .lst true (cutD xs (some i) none) else .tup (cutD xs (some i) none)) ρ'
      | false, true, [j] => .ok (if b = true then .lst true (cutD xs none (some j)) else .tup (cutD xs none (some j))) ρ'
      | true, true, [i, j] => .ok (if b = true then .lst true (cutD xs (some i) (some j)) else .tup (cutD xs (some i) (some j))) ρ'
      | _, _, _ => .no
    | _, _ => .no
  | .ok [] _ => .no
  | .ex x ρ => .ex x ρ
  | .no => .no
def mkSq (b : Bool) (xs : List D) : D := if b = true then .lst true xs else .tup xs
@[simp] theorem mkSq_t (xs : List D) : mkSq true xs = .lst true xs := (rfl)
@[simp] theorem mkSq_f (xs : List D) : mkSq false xs = .tup xs := (rfl)
def slo (lo hi : Option Int) (ρ : En) : Option (Bool × List D) → Out D
  | some p => .ok (mkSq p.1 (cutD p.2 lo hi)) ρ
  | none => .no
@[simp] theorem slo_some (lo hi : Option Int) (ρ : En) (p : Bool × List D) : slo lo hi ρ (some p) = .ok (mkSq p.1 (cutD p.2 lo hi)) ρ := (rfl)
theorem evSl_eq (pa : Opd) (lo hi : Option (En → Out D)) (ρ : En) : evSl pa lo hi ρ = slK lo.isSome hi.isSome (evOps (pa :: (prD lo ++ prD hi)) ρ) := by
  rw [evSl]
  cases evOps (pa :: (prD lo ++ prD hi)) ρ with
  | ok ds ρ' =>
    simp only [Out.bind]
    cases ds with
    | nil => rfl
    | cons d is =>
      simp only [slK]
      cases seqOf d with
      | none => rfl
      | some p =>
        cases intsOf is with
        | none => rfl
        | some js => cases lo <;> cases hi <;> (rcases js with _ | ⟨a, _ | ⟨b, _ | ⟨c, js⟩⟩⟩) <;> rfl
  | _ => rfl
@[simp] theorem evSl_0 (pa : Opd) (ρ : En) : evSl pa none none ρ = slK false false (evOps [pa] ρ) := evSl_eq _ _ _ _
@[simp] theorem evSl_1 (pa : Opd) (f : En → Out D) (ρ : En) : evSl pa (some f) none ρ = slK true false (evOps [pa, .val f] ρ) := evSl_eq _ _ _ _
@[simp] theorem evSl_2 (pa : Opd) (f : En → Out D) (ρ : En) : evSl pa none (some f) ρ = slK false true (evOps [pa, .val f] ρ) := evSl_eq _ _ _ _
@[simp] theorem slK_0 (d : D) (ρ : En) : slK false false (.ok [d] ρ) = slo none none ρ (seqOf d) := by
  simp only [slK, intsOf]; rw [slo.eq_def]; cases seqOf d <;> rfl
@[simp] theorem slK_1 (d : D) (i : Int) (ρ : En) : slK true false (.ok [d, .int i] ρ) = slo (some i) none ρ (seqOf d) := by
  simp only [slK, intsOf]; rw [slo.eq_def]; cases seqOf d <;> rfl
@[simp] theorem slK_2 (d : D) (i : Int) (ρ : En) : slK false true (.ok [d, .int i] ρ) = slo none (some i) ρ (seqOf d) := by
  simp only [slK, intsOf]; rw [slo.eq_def]; cases seqOf d <;> rfl
def svK1 (fl fh : En → Out D) : Out D → Out D
  | .ok d ρ1 => (fl ρ1).bind fun i ρ2 => match i with
    | .int i => (fh ρ2).bind fun j ρ3 => match j with
      | .int j => match seqOf d with
        | some (b, xs) => .ok (if b = true then .lst true (cutD xs (some i) (some j)) else .tup (cutD xs (some i) (some j))) ρ3
        | none => .no
      | _ => .no
    | _ => .no
  | .ex x ρ => .ex x ρ
  | .no => .no
def svK2 (d : D) (fh : En → Out D) : Out D → Out D
  | .ok (.int i) ρ2 => (fh ρ2).bind fun j ρ3 => match j with
      | .int j => match seqOf d with
        | some (b, xs) => .ok (if b = true then .lst true (cutD xs (some i) (some j)) else .tup (cutD xs (some i) (some j))) ρ3
        | none => .no
      | _ => .no
  | .ex x ρ => .ex x ρ
  | _ => .no
def svK3 (d : D) (i : Int) : Out D → Out D
  | .ok (.int j) ρ3 => slo (some i) (some j) ρ3 (seqOf d)
  | .ex x ρ => .ex x ρ
  | _ => .no
@[simp] theorem evSlV_eq (f fl fh : En → Out D) (ρ : En) : evSlV f fl fh ρ = svK1 fl fh (f ρ) := by
  rw [evSlV, svK1.eq_def]; cases f ρ <;> rfl
@[simp] theorem svK1_ok (fl fh : En → Out D) (d : D) (ρ : En) : svK1 fl fh (.ok d ρ) = svK2 d fh (fl ρ) := by
  rw [svK1, svK2.eq_def]
  cases fl ρ with
  | ok i ρ2 => cases i <;> rfl
  | _ => rfl
@[simp] theorem svK2_ok (d : D) (fh : En → Out D) (i : Int) (ρ : En) : svK2 d fh (.ok (.int i) ρ) = svK3 d i (fh ρ) := by
  rw [svK2, svK3.eq_def]
  cases fh ρ with
  | ok j ρ3 => cases j <;> simp only [Out.bind] <;> (rw [slo.eq_def]; cases seqOf d <;> rfl)
  | _ => rfl
@[simp] theorem svK3_ok (d : D) (i j : Int) (ρ : En) : svK3 d i (.ok (.int j) ρ) = slo (some i) (some j) ρ (seqOf d) := (rfl)

/-! zip, enumerate -/
def zpK1 (g : En → Out D) : Out D → Out (List D)
  | .ok d ρ1 => (g ρ1).bind fun e ρ2 => match seqOf d, seqOf e with
    | some (true, xs), some (true, ys) => .ok (zipD xs ys) ρ2
    | some (false, xs), some (false, ys) => .ok (zipD xs ys) ρ2
    | _, _ => .no
  | .ex x ρ => .ex x ρ
  | .no => .no
def zpK2 (d : D) : Out D → Out (List D)
  | .ok e ρ2 => match seqOf d, seqOf e with
    | some (true, xs), some (true, ys) => .ok (zipD xs ys) ρ2
    | some (false, xs), some (false, ys) => .ok (zipD xs ys) ρ2
    | _, _ => .no
  | .ex x ρ => .ex x ρ
  | .no => .no
def zpK3 (ρ : En) : Option (Bool × List D) → Option (Bool × List D) → Out (List D)
  | some (true, xs), some (true, ys) => .ok (zipD xs ys) ρ
  | some (false, xs), some (false, ys) => .ok (zipD xs ys) ρ
  | _, _ => .no
@[simp] theorem itZip_eq (f g : En → Out D) (ρ : En) : itZip f g ρ = zpK1 g (f ρ) := by
  rw [itZip, zpK1.eq_def]; cases f ρ <;> rfl
@[simp] theorem zpK1_ok (g : En → Out D) (d : D) (ρ : En) : zpK1 g (.ok d ρ) = zpK2 d (g ρ) := by
  rw [zpK1, zpK2.eq_def]; cases g ρ <;> rfl
@[simp] theorem zpK2_ok (d e : D) (ρ : En) : zpK2 d (.ok e ρ) = zpK3 ρ (seqOf d) (seqOf e) := by
  rw [zpK2, zpK3.eq_def]
@[simp] theorem zpK3_t (xs ys : List D) (ρ : En) : zpK3 ρ (some (true, xs)) (some (true, ys)) = .ok (zipD xs ys) ρ := (rfl)
@[simp] theorem zpK3_f (xs ys : List D) (ρ : En) : zpK3 ρ (some (false, xs)) (some (false, ys)) = .ok (zipD xs ys) ρ := (rfl)
def enK : Out D → Out (List D)
  | .ok d ρ' => match seqOf d with
    | some (true, xs) => .ok (enD 0 xs) ρ'
    | _ => .no
  | .ex x ρ => .ex x ρ
  | .no => .no
def enK2 (ρ : En) : Option (Bool × List D) → Out (List D)
  | some (true, xs) => .ok (enD 0 xs) ρ
  | _ => .no
@[simp] theorem itEnV_eq (f : En → Out D) (ρ : En) : itEnV f ρ = enK (f ρ) := by
  rw [itEnV, enK.eq_def]; cases f ρ <;> rfl
@[simp] theorem enK_ok (d : D) (ρ : En) : enK (.ok d ρ) = enK2 ρ (seqOf d) := by
  rw [enK, enK2.eq_def]
@[simp] theorem enK2_t (xs : List D) (ρ : En) : enK2 ρ (some (true, xs)) = .ok (enD 0 xs) ρ := (rfl)

/-! operations on plain numbers -/
@[simp] theorem opAdd_i (i j : Int) : opAdd [.int i, .int j] = some (.int (i + j)) := (rfl)
@[simp] theorem opSub_i (i j : Int) : opSub [.int i, .int j] = some (.int (i - j)) := (rfl)
@[simp] theorem opLt_i (i j : Int) : opLt [.int i, .int j] = some (.bl (decide (i < j))) := (rfl)
@[simp] theorem opLe_i (i j : Int) : opLe [.int i, .int j] = some (.bl (decide (i ≤ j))) := (rfl)
@[simp] theorem opGt_i (i j : Int) : opGt [.int i, .int j] = some (.bl (decide (j < i))) := (rfl)
@[simp] theorem opGe_i (i j : Int) : opGe [.int i, .int j] = some (.bl (decide (j ≤ i))) := (rfl)
@[simp] theorem opEq_i (i j : Int) : opEq [.int i, .int j] = some (.bl (decide (i = j))) := (rfl)
@[simp] theorem opNe_i (i j : Int) : opNe [.int i, .int j] = some (.bl (!decide (i = j))) := (rfl)
@[simp] theorem opEq_s (i j : Str) : opEq [.str i, .str j] = some (.bl (decide (i = j))) := (rfl)
@[simp] theorem opNe_s (i j : Str) : opNe [.str i, .str j] = some (.bl (!decide (i = j))) := (rfl)
@[simp] theorem opEq_b (i j : Bool) : opEq [.bl i, .bl j] = some (.bl (decide (i = j))) := (rfl)
@[simp] theorem opNe_b (i j : Bool) : opNe [.bl i, .bl j] = some (.bl (!decide (i = j))) := (rfl)
@[simp] theorem opMax2_i (i j : Int) : opMax2 [.int i, .int j] = some (.int (if j > i then j else i)) := (rfl)
@[simp] theorem opMin2_i (i j : Int) : opMin2 [.int i, .int j] = some (.int (if j < i then j else i)) := (rfl)
@[simp] theorem opInt_b (b : Bool) : opInt [.bl b] = some (.int (if b = true then 1 else 0)) := (rfl)
@[simp] theorem opInt_i (b : Int) : opInt [.int b] = some (.int b) := (rfl)
@[simp] theorem opNeg_i (i : Int) : opNeg [.int i] = some (.int (-i)) := (rfl)
theorem opFd_i {i j : Int} (h : 0 < j) (h2 : j < 1073741824) : opFd [.int i, .int j] = some (.int (i / j)) := by
  simp [opFd, opI2, h, h2]
theorem opMd_i {i j : Int} (h : 0 < j) : opMd [.int i, .int j] = some (.int (i % j)) := by
  simp [opMd, opI2, h]
theorem opMul_i {i j : Int} (h : (-(2 ^ 64) < i ∧ i < 2 ^ 64) ∨ (-(2 ^ 64) < j ∧ j < 2 ^ 64)) : opMul [.int i, .int j] = some (.int (i * j)) := by
  show (if _ then _ else _) = _
  rw [if_pos]
  simp only [Bool.or_eq_true, Bool.and_eq_true, decide_eq_true_eq]
  exact h
@[simp] theorem opLen_l (o : Bool) (xs : List D) : opLen [.lst o xs] = some (.int xs.length) := (rfl)
@[simp] theorem opLen_t (xs : List D) : opLen [.tup xs] = some (.int xs.length) := (rfl)
@[simp] theorem opIsN_n : opIsN [.non, .non] = some (.bl true) := (rfl)
@[simp] theorem opIsN_i (i : Int) : opIsN [.int i, .non] = some (.bl false) := (rfl)
@[simp] theorem opIsN_s (i : Str) : opIsN [.str i, .non] = some (.bl false) := (rfl)
@[simp] theorem opIsN_t (i : List D) : opIsN [.tup i, .non] = some (.bl false) := (rfl)
@[simp] theorem opIsN_l (o : Bool) (i : List D) : opIsN [.lst o i, .non] = some (.bl false) := (rfl)
@[simp] theorem opIsN_b (i : Bool) : opIsN [.bl i, .non] = some (.bl false) := (rfl)
@[simp] theorem opNoN_n : opNoN [.non, .non] = some (.bl false) := (rfl)
@[simp] theorem opNoN_i (i : Int) : opNoN [.int i, .non] = some (.bl true) := (rfl)
@[simp] theorem opNoN_s (i : Str) : opNoN [.str i, .non] = some (.bl true) := (rfl)
@[simp] theorem opNoN_t (i : List D) : opNoN [.tup i, .non] = some (.bl true) := (rfl)
@[simp] theorem opIsi_eq (c : PT) (d : D) : opIsi c [d] = if isOb d = true then none else some (.bl ((tyD d).is c)) := (rfl)
@[simp] theorem isOb_non : isOb .non = false := (rfl)
@[simp] theorem isOb_bl (b : Bool) : isOb (.bl b) = false := (rfl)
@[simp] theorem isOb_int (b : Int) : isOb (.int b) = false := (rfl)
@[simp] theorem isOb_str (b : Str) : isOb (.str b) = false := (rfl)
@[simp] theorem isOb_lst (o : Bool) (xs : List D) : isOb (.lst o xs) = false := (rfl)
@[simp] theorem isOb_tup (xs : List D) : isOb (.tup xs) = false := (rfl)
@[simp] theorem isOb_dk (o : Bool) (ks : List Key) (xs : List D) : isOb (.dk o ks xs) = false := (rfl)
@[simp] theorem isOb_dt (o : Bool) (ks : List (List Key)) (xs : List D) : isOb (.dt o ks xs) = false := (rfl)
@[simp] theorem isOb_rs : isOb .rs = false := (rfl)
@[simp] theorem isOb_ev (C : Str) (fs : List Str) (xs : List D) : isOb (.ev C fs xs) = true := (rfl)
@[simp] theorem isOb_ob (o : Bool) (C : Str) (fs : List Str) (xs : List D) : isOb (.ob o C fs xs) = true := (rfl)
theorem opRgL1_i {j : Int} (h : rgOk 0 j = true) : opRgL1 [.int j] = some (.lst true (rgD 0 j)) := if_pos h
theorem opRgT2_i {i j : Int} (h : rgOk i j = true) : opRgT2 [.int i, .int j] = some (.tup (rgD i j)) := if_pos h
theorem opRgT1_i {j : Int} (h : rgOk 0 j = true) : opRgT1 [.int j] = some (.tup (rgD 0 j)) := if_pos h
theorem moApp_i {ds : List D} {d : D} (h : ds.length < sizeLine) : moApp ds d = some (ds ++ [d]) := if_pos h
@[simp] theorem moRev_eq (ds : List D) : moRev ds = some ds.reverse := (rfl)
@[simp] theorem moClear_eq (ds : List D) : moClear ds = some [] := (rfl)
@[simp] theorem fz_int (i : Int) : fz (.int i) = .int i := (rfl)
@[simp] theorem fz_str (i : Str) : fz (.str i) = .str i := (rfl)
@[simp] theorem fz_bl (i : Bool) : fz (.bl i) = .bl i := (rfl)
@[simp] theorem fz_non : fz .non = .non := (rfl)
@[simp] theorem fz_rs : fz .rs = .rs := (rfl)
theorem fz_of {d : D} (h : shr d = true) : fz d = d := if_pos h
@[simp] theorem shr_int (i : Int) : shr (.int i) = true := by simp [shr]
@[simp] theorem shr_str (i : Str) : shr (.str i) = true := by simp [shr]
@[simp] theorem shr_bl (i : Bool) : shr (.bl i) = true := by simp [shr]
@[simp] theorem shr_non : shr .non = true := by simp [shr]
@[simp] theorem shr_rs : shr .rs = true := by simp [shr]
@[simp] theorem shr_lst (o : Bool) (xs : List D) : shr (.lst o xs) = (!o && shrL xs) := by simp [shr]
@[simp] theorem shr_tup (xs : List D) : shr (.tup xs) = shrL xs := by simp [shr]
@[simp] theorem shr_dk (o : Bool) (ks : List Key) (xs : List D) : shr (.dk o ks xs) = (!o && shrL xs) := by simp [shr]
@[simp] theorem shrL_nil : shrL [] = true := by simp [shrL]
@[simp] theorem shrL_cons (d : D) (ds : List D) : shrL (d :: ds) = (shr d && shrL ds) := by simp [shrL]
@[simp] theorem shrL_append (a b : List D) : shrL (a ++ b) = (shrL a && shrL b) := by
  induction a with
  | nil => simp
  | cons x xs ih => simp [ih, Bool.and_assoc]
theorem shrL_map {α : Type} {f : α → D} (h : ∀ x, shr (f x) = true) (xs : List α) : shrL (xs.map f) = true := by
  induction xs with
  | nil => simp
  | cons x xs ih => simp [h, ih]
theorem shrL_all {ds : List D} : shrL ds = true ↔ ∀ d ∈ ds, shr d = true := by
  induction ds with
  | nil => simp
  | cons x xs ih => simp [ih]
@[simp] theorem clo_int (i : Int) : clo (.int i) = true := by simp [clo]
@[simp] theorem clo_str (i : Str) : clo (.str i) = true := by simp [clo]
@[simp] theorem clo_bl (i : Bool) : clo (.bl i) = true := by simp [clo]
@[simp] theorem clo_non : clo .non = true := by simp [clo]
@[simp] theorem clo_lst (o : Bool) (xs : List D) : clo (.lst o xs) = (o && cloL xs) := by simp [clo]
@[simp] theorem clo_tup (xs : List D) : clo (.tup xs) = cloL xs := by simp [clo]
@[simp] theorem clo_dt (o : Bool) (ks : List (List Key)) (xs : List D) : clo (.dt o ks xs) = (o && cloL xs) := by simp [clo]
@[simp] theorem clo_ob (o : Bool) (C : Str) (fs : List Str) (xs : List D) : clo (.ob o C fs xs) = (o && cloL xs) := by simp [clo]
@[simp] theorem shr_ob (o : Bool) (C : Str) (fs : List Str) (xs : List D) : shr (.ob o C fs xs) = (!o && shrL xs) := by simp [shr]
@[simp] theorem frz_ob (o : Bool) (C : Str) (fs : List Str) (xs : List D) : frz (.ob o C fs xs) = .ob false C fs (frzL xs) := by simp [frz]
@[simp] theorem clo_ev (C : Str) (fs : List Str) (xs : List D) : clo (.ev C fs xs) = false := by simp [clo]
@[simp] theorem shr_ev (C : Str) (fs : List Str) (xs : List D) : shr (.ev C fs xs) = true := by simp [shr]
@[simp] theorem frz_ev (C : Str) (fs : List Str) (xs : List D) : frz (.ev C fs xs) = .ev C fs xs := by simp [frz]
@[simp] theorem clo_rs : clo .rs = true := by simp [clo]
@[simp] theorem clo_dk (o : Bool) (ks : List Key) (xs : List D) : clo (.dk o ks xs) = (o && cloL xs) := by simp [clo]
@[simp] theorem cloL_nil : cloL [] = true := by simp [cloL]
@[simp] theorem cloL_cons (d : D) (ds : List D) : cloL (d :: ds) = (clo d && cloL ds) := by simp [cloL]
theorem cloL_map {α : Type} {f : α → D} (h : ∀ x, clo (f x) = true) (xs : List α) : cloL (xs.map f) = true := by
  induction xs with
  | nil => simp
  | cons x xs ih => simp [h, ih]
@[simp] theorem frz_int (i : Int) : frz (.int i) = .int i := by simp [frz]
@[simp] theorem frz_str (i : Str) : frz (.str i) = .str i := by simp [frz]
@[simp] theorem frz_bl (i : Bool) : frz (.bl i) = .bl i := by simp [frz]
@[simp] theorem frz_non : frz .non = .non := by simp [frz]
@[simp] theorem frz_rs : frz .rs = .rs := by simp [frz]
@[simp] theorem frz_lst (o : Bool) (xs : List D) : frz (.lst o xs) = .lst false (frzL xs) := by simp [frz]
@[simp] theorem frz_tup (xs : List D) : frz (.tup xs) = .tup (frzL xs) := by simp [frz]
@[simp] theorem frz_dk (o : Bool) (ks : List Key) (xs : List D) : frz (.dk o ks xs) = .dk false ks (frzL xs) := by simp [frz]
@[simp] theorem frzL_nil : frzL [] = [] := by simp [frzL]
@[simp] theorem frzL_cons (d : D) (ds : List D) : frzL (d :: ds) = frz d :: frzL ds := by simp [frzL]
mutual
theorem frz_shr : ∀ {d : D}, shr d = true → frz d = d
  | .non, _ => by simp
  | .bl _, _ => by simp
  | .int _, _ => by simp
  | .str _, _ => by simp
  | .rs, _ => by simp
  | .lst o xs, h => by
    simp at h
    simp [h.1, frzL_shr h.2]
  | .tup xs, h => by
    simp at h
    simp [frzL_shr h]
  | .dk o ks xs, h => by
    simp at h
    simp [h.1, frzL_shr h.2]
  | .dt o ks xs, h => by
    simp [shr] at h
    simp [frz, h.1, frzL_shr h.2]
  | .ob o C fs xs, h => by
    simp [shr] at h
    simp [frz, h.1, frzL_shr h.2]
  | .ev C fs xs, h => by simp
theorem frzL_shr : ∀ {ds : List D}, shrL ds = true → frzL ds = ds
  | [], _ => by simp
  | d :: ds, h => by
    simp at h
    simp [frz_shr h.1, frzL_shr h.2]
end
mutual
theorem shr_frz : ∀ (d : D), shr (frz d) = true
  | .non => by simp
  | .bl _ => by simp
  | .int _ => by simp
  | .str _ => by simp
  | .rs => by simp
  | .lst o xs => by simp [shrL_frzL xs]
  | .tup xs => by simp [shrL_frzL xs]
  | .dk o ks xs => by simp [shrL_frzL xs]
  | .dt o ks xs => by simp [frz, shr, shrL_frzL xs]
  | .ob o C fs xs => by simp [frz, shr, shrL_frzL xs]
  | .ev C fs xs => by simp [frz, shr]
theorem shrL_frzL : ∀ (ds : List D), shrL (frzL ds) = true
  | [] => by simp
  | d :: ds => by simp [shr_frz d, shrL_frzL ds]
end
@[simp] theorem fz_tup (xs : List D) : fz (.tup xs) = .tup (frzL xs) := by
  unfold fz
  split
  · rename_i h
    simp at h
    rw [frzL_shr h]
  · simp
@[simp] theorem fz_lst (o : Bool) (xs : List D) : fz (.lst o xs) = .lst false (frzL xs) := by
  unfold fz
  split
  · rename_i h
    simp at h
    rw [frzL_shr h.2, h.1]
  · simp
@[simp] theorem fz_dk (o : Bool) (ks : List Key) (xs : List D) : fz (.dk o ks xs) = .dk false ks (frzL xs) := by
  unfold fz
  split
  · rename_i h
    simp at h
    rw [frzL_shr h.2, h.1]
  · simp
@[simp] theorem seqOf_lf (xs : List D) : seqOf (.lst false xs) = some (true, xs) := (rfl)
theorem seqOf_lt {xs : List D} (h : shrL xs = true) : seqOf (.lst true xs) = some (true, xs) := by simp [seqOf, h]
theorem seqOf_tp' {xs : List D} (h : shrL xs = true) : seqOf (.tup xs) = some (false, xs) := by simp [seqOf, h]
end Fw

/- part FwVa -/
namespace Fw
open PySem L2
/-! the later constructs, run step by step -/
def ixtK1 (g : En → Out D) : Out D → Out D
  | .ok d ρ1 => (g ρ1).bind fun j ρ2 => match itemsD d, j with
    | some xs, .int i => match atI xs i with
      | some x => .ok x ρ2
      | none => .no
    | _, _ => .no
  | .ex x ρ => .ex x ρ
  | .no => .no
def ixtK2 (d : D) : Out D → Out D
  | .ok j ρ2 => match itemsD d, j with
    | some xs, .int i => match atI xs i with
      | some x => .ok x ρ2
      | none => .no
    | _, _ => .no
  | .ex x ρ => .ex x ρ
  | .no => .no
@[simp] theorem evIxT_eq (f g : En → Out D) (ρ : En) : evIxT f g ρ = ixtK1 g (f ρ) := by
  rw [evIxT, ixtK1.eq_def]; cases f ρ <;> rfl
@[simp] theorem ixtK1_ok (g : En → Out D) (d : D) (ρ : En) : ixtK1 g (.ok d ρ) = ixtK2 d (g ρ) := by
  rw [ixtK1, ixtK2.eq_def]; cases g ρ <;> rfl
@[simp] theorem ixtK1_ex (g : En → Out D) (x : Exc) (ρ : En) : ixtK1 g (.ex x ρ) = .ex x ρ := (rfl)
@[simp] theorem ixtK2_l (o : Bool) (xs : List D) (i : Int) (ρ : En) : ixtK2 (.lst o xs) (.ok (.int i) ρ) = odK ρ (atI xs i) := by
  simp only [ixtK2, itemsD, odK.eq_def] <;> cases atI xs i <;> rfl
@[simp] theorem ixtK2_t (xs : List D) (i : Int) (ρ : En) : ixtK2 (.tup xs) (.ok (.int i) ρ) = odK ρ (atI xs i) := by
  simp only [ixtK2, itemsD, odK.eq_def] <;> cases atI xs i <;> rfl
def rgcK : Out (List D) → Out (List D)
  | .ok [.int i, .int j, .int (-1)] ρ' => if rgOk j i = true then .ok (rgC i (-1) (i - j).toNat) ρ' else .no
  | .ex x ρ => .ex x ρ
  | _ => .no
@[simp] theorem itRgC_eq (ps : List Opd) (ρ : En) : itRgC ps ρ = rgcK (evOps ps ρ) := by
  rw [itRgC]
  cases evOps ps ρ with
  | ok ds ρ => simp only [Out.bind]; unfold rgcK; split <;> simp_all
  | _ => rfl
theorem rgcK_ok (i j : Int) (ρ : En) (h : rgOk j i = true) : rgcK (.ok [.int i, .int j, .int (-1)] ρ) = .ok (rgC i (-1) (i - j).toNat) ρ := if_pos h
def popK (i : Nat) (ρ : En) : Option Sv → Out D
  | some (.ow (.lst true ds)) => match ds[ds.length - 1]? with
    | some x => .ok x { ρ with vs := ρ.vs.set i (.ow (.lst true ds.dropLast)) }
    | none => .no
  | _ => .no
@[simp] theorem evPop_eq (i : Nat) (vs : List Sv) (st : RSt) : evPop i ⟨vs, st⟩ = popK i ⟨vs, st⟩ vs[i]? := by
  rw [evPop]; dsimp only
  rcases vs[i]? with _ | (_ | d | d)
  · rfl
  · rfl
  · rfl
  · rcases d with _ | b | i | x | ⟨o, xs⟩ | xs | ⟨o, ks, xs⟩ | ⟨o, ks, xs⟩ | _ | ⟨o, C, fs, xs⟩ | ⟨C, fs, xs⟩ <;> first | rfl | (cases o <;> rfl)
theorem popK_ok (i : Nat) (vs : List Sv) (st : RSt) (ds : List D) (x : D) : popK i ⟨vs, st⟩ (some (.ow (.lst true (ds ++ [x])))) = .ok x ⟨vs.set i (.ow (.lst true ds)), st⟩ := by
  rw [popK]; simp
def patK (i : Nat) (f : En → Out D) (ρ : En) : Option Sv → Out D
  | some (.ow (.lst true _)) => (f ρ).bind fun j ρ1 => match ρ1.vs[i]?, j with
    | some (.ow (.lst true ds)), .int k => if 0 ≤ k ∧ k < ds.length ∧ ds.length < 2 ^ 62 then match ds[k.toNat]? with
      | some x => .ok x { ρ1 with vs := ρ1.vs.set i (.ow (.lst true (ds.eraseIdx k.toNat))) }
      | none => .no
      else .no
    | _, _ => .no
  | _ => .no
def patK1 (i : Nat) : Out D → Out D
  | .ok j ρ1 => match ρ1.vs[i]?, j with
    | some (.ow (.lst true ds)), .int k => if 0 ≤ k ∧ k < ds.length ∧ ds.length < 2 ^ 62 then match ds[k.toNat]? with
      | some x => .ok x { ρ1 with vs := ρ1.vs.set i (.ow (.lst true (ds.eraseIdx k.toNat))) }
      | none => .no
      else .no
    | _, _ => .no
  | .ex x ρ => .ex x ρ
  | .no => .no
def patK2 (i : Nat) (k : Int) (ρ1 : En) : Option Sv → Out D
  | some (.ow (.lst true ds)) => if 0 ≤ k ∧ k < ds.length ∧ ds.length < 2 ^ 62 then match ds[k.toNat]? with
      | some x => .ok x { ρ1 with vs := ρ1.vs.set i (.ow (.lst true (ds.eraseIdx k.toNat))) }
      | none => .no
      else .no
  | _ => .no
@[simp] theorem evPopAt_eq (i : Nat) (f : En → Out D) (vs : List Sv) (st : RSt) : evPopAt i f ⟨vs, st⟩ = patK i f ⟨vs, st⟩ vs[i]? := by
  rw [evPopAt]; dsimp only
  rcases vs[i]? with _ | (_ | d | d)
  · rfl
  · rfl
  · rfl
  · rcases d with _ | b | i | x | ⟨o, xs⟩ | xs | ⟨o, ks, xs⟩ | ⟨o, ks, xs⟩ | _ | ⟨o, C, fs, xs⟩ | ⟨C, fs, xs⟩ <;> first | rfl | (cases o <;> rfl)
@[simp] theorem patK_ok (i : Nat) (f : En → Out D) (ρ : En) (ds : List D) : patK i f ρ (some (.ow (.lst true ds))) = patK1 i (f ρ) := by
  rw [patK, patK1.eq_def]; cases f ρ <;> rfl
@[simp] theorem patK1_ok (i : Nat) (k : Int) (vs : List Sv) (st : RSt) : patK1 i (.ok (.int k) ⟨vs, st⟩) = patK2 i k ⟨vs, st⟩ vs[i]? := by
  unfold patK1; dsimp only
  rcases vs[i]? with _ | (_ | d | d)
  · rfl
  · rfl
  · rfl
  · rcases d with _ | b | i | x | ⟨o, xs⟩ | xs | ⟨o, ks, xs⟩ | ⟨o, ks, xs⟩ | _ | ⟨o, C, fs, xs⟩ | ⟨C, fs, xs⟩ <;> first | rfl | (cases o <;> rfl)
theorem patK2_ok {i : Nat} {k : Int} {vs : List Sv} {st : RSt} {ds : List D} (h0 : 0 ≤ k) (h1 : k < ds.length) (h2 : ds.length < 2 ^ 62) : patK2 i k ⟨vs, st⟩ (some (.ow (.lst true ds))) = .ok (ds[k.toNat]'(by omega)) ⟨vs.set i (.ow (.lst true (ds.eraseIdx k.toNat))), st⟩ := by
  rw [patK2, if_pos ⟨h0, h1, h2⟩, List.getElem?_eq_getElem (by omega)]
def chK1 (c1 c2 : Int → Int → Bool) (g h : En → Out D) : Out D → Out D
  | .ok x ρ1 => (g ρ1).bind fun y ρ2 => match x, y with
    | .int i, .int j => if c1 i j = true then (h ρ2).bind fun z ρ3 => match z with
        | .int k => .ok (.bl (c2 j k)) ρ3
        | _ => .no
      else .ok (.bl false) ρ2
    | _, _ => .no
  | .ex x ρ => .ex x ρ
  | .no => .no
def chK2 (c1 c2 : Int → Int → Bool) (h : En → Out D) (i : Int) : Out D → Out D
  | .ok (.int j) ρ2 => if c1 i j = true then (h ρ2).bind fun z ρ3 => match z with
        | .int k => .ok (.bl (c2 j k)) ρ3
        | _ => .no
      else .ok (.bl false) ρ2
  | .ex x ρ => .ex x ρ
  | _ => .no
def chK3 (c2 : Int → Int → Bool) (h : En → Out D) (j : Int) (ρ2 : En) : Bool → Out D
  | true => (h ρ2).bind fun z ρ3 => match z with
        | .int k => .ok (.bl (c2 j k)) ρ3
        | _ => .no
  | false => .ok (.bl false) ρ2
def chK4 (c2 : Int → Int → Bool) (j : Int) : Out D → Out D
  | .ok (.int k) ρ3 => .ok (.bl (c2 j k)) ρ3
  | .ex x ρ => .ex x ρ
  | _ => .no
@[simp] theorem evChI_eq (c1 c2 : Int → Int → Bool) (f g h : En → Out D) (ρ : En) : evChI c1 c2 f g h ρ = chK1 c1 c2 g h (f ρ) := by
  rw [evChI, chK1.eq_def]; cases f ρ <;> rfl
@[simp] theorem chK1_ok (c1 c2 : Int → Int → Bool) (g h : En → Out D) (i : Int) (ρ : En) : chK1 c1 c2 g h (.ok (.int i) ρ) = chK2 c1 c2 h i (g ρ) := by
  rw [chK1, chK2.eq_def]
  cases g ρ with
  | ok y ρ2 => cases y <;> rfl
  | _ => rfl
@[simp] theorem chK2_ok (c1 c2 : Int → Int → Bool) (h : En → Out D) (i j : Int) (ρ : En) : chK2 c1 c2 h i (.ok (.int j) ρ) = chK3 c2 h j ρ (c1 i j) := by
  rw [chK2, chK3.eq_def]
  cases c1 i j <;> rfl
@[simp] theorem chK3_t (c2 : Int → Int → Bool) (h : En → Out D) (j : Int) (ρ : En) : chK3 c2 h j ρ true = chK4 c2 j (h ρ) := by
  rw [chK3, chK4.eq_def]
  cases h ρ with
  | ok y ρ2 => cases y <;> rfl
  | _ => rfl
@[simp] theorem chK3_f (c2 : Int → Int → Bool) (h : En → Out D) (j : Int) (ρ : En) : chK3 c2 h j ρ false = .ok (.bl false) ρ := (rfl)
@[simp] theorem chK4_ok (c2 : Int → Int → Bool) (j k : Int) (ρ : En) : chK4 c2 j (.ok (.int k) ρ) = .ok (.bl (c2 j k)) ρ := (rfl)
def parK1 (i j : Nat) (g : En → Out D) : Out D → Out Fl
  | .ok x ρ1 => (g ρ1).bind fun y ρ2 => .ok .nx { ρ2 with vs := (ρ2.vs.set j (mkSv y)).set i (mkSv x) }
  | .ex x ρ => .ex x ρ
  | .no => .no
def parK2 (i j : Nat) (x : D) : Out D → Out Fl
  | .ok y ρ2 => .ok .nx { ρ2 with vs := (ρ2.vs.set j (mkSv y)).set i (mkSv x) }
  | .ex x ρ => .ex x ρ
  | .no => .no
@[simp] theorem sPar_eq (i j : Nat) (f g : En → Out D) (ρ : En) : sPar i j f g ρ = parK1 i j g (f ρ) := by
  rw [sPar, parK1.eq_def]; cases f ρ <;> rfl
@[simp] theorem parK1_ok (i j : Nat) (g : En → Out D) (x : D) (ρ : En) : parK1 i j g (.ok x ρ) = parK2 i j x (g ρ) := by
  rw [parK1, parK2.eq_def]; cases g ρ <;> rfl
@[simp] theorem parK2_ok (i j : Nat) (x y : D) (vs : List Sv) (st : RSt) : parK2 i j x (.ok y ⟨vs, st⟩) = .ok .nx ⟨(vs.set j (mkSv y)).set i (mkSv x), st⟩ := (rfl)
def augK (i : Nat) (k : Int → Int → Int) (f : En → Out D) (ρ : En) : Option Sv → Out Fl
  | some (.sh (.int x)) => (f ρ).bind fun y ρ1 => match y with
    | .int j => .ok .nx { ρ1 with vs := ρ1.vs.set i (mkSv (.int (k x j))) }
    | _ => .no
  | _ => .no
def augK1 (i : Nat) (k : Int → Int → Int) (x : Int) : Out D → Out Fl
  | .ok (.int j) ρ1 => .ok .nx { ρ1 with vs := ρ1.vs.set i (mkSv (.int (k x j))) }
  | .ex x ρ => .ex x ρ
  | _ => .no
@[simp] theorem sAug_eq (i : Nat) (k : Int → Int → Int) (f : En → Out D) (vs : List Sv) (st : RSt) : sAug i k f ⟨vs, st⟩ = augK i k f ⟨vs, st⟩ vs[i]? := by
  rw [sAug]; dsimp only
  rcases vs[i]? with _ | (_ | d | d)
  · rfl
  · rfl
  · cases d <;> rfl
  · rfl
@[simp] theorem augK_ok (i : Nat) (k : Int → Int → Int) (f : En → Out D) (ρ : En) (x : Int) : augK i k f ρ (some (.sh (.int x))) = augK1 i k x (f ρ) := by
  rw [augK, augK1.eq_def]
  cases f ρ with
  | ok y ρ2 => cases y <;> rfl
  | _ => rfl
@[simp] theorem augK1_ok (i : Nat) (k : Int → Int → Int) (x j : Int) (vs : List Sv) (st : RSt) : augK1 i k x (.ok (.int j) ⟨vs, st⟩) = .ok .nx ⟨vs.set i (.sh (.int (k x j))), st⟩ := by
  rw [augK1]; simp
def getK (i : Nat) (fk fe : En → Out D) (ρ : En) : Option D → Out D
  | some (.dk _ _ _) => (fk ρ).bind fun k ρ1 => (fe ρ1).bind fun x ρ2 => match ρ2.vs[i]?.bind Sv.get? with
    | some (.dk _ ks xs) => match keyD k with
      | some q => match getD ks xs q with
        | some y => if shr y = true then .ok y ρ2 else .no
        | none => .ok x ρ2
      | none => .no
    | _ => .no
  | _ => .no
def getK1 (i : Nat) (fe : En → Out D) : Out D → Out D
  | .ok k ρ1 => (fe ρ1).bind fun x ρ2 => match ρ2.vs[i]?.bind Sv.get? with
    | some (.dk _ ks xs) => match keyD k with
      | some q => match getD ks xs q with
        | some y => if shr y = true then .ok y ρ2 else .no
        | none => .ok x ρ2
      | none => .no
    | _ => .no
  | .ex x ρ => .ex x ρ
  | .no => .no
def getK2 (i : Nat) (k : D) : Out D → Out D
  | .ok x ρ2 => match ρ2.vs[i]?.bind Sv.get? with
    | some (.dk _ ks xs) => match keyD k with
      | some q => match getD ks xs q with
        | some y => if shr y = true then .ok y ρ2 else .no
        | none => .ok x ρ2
      | none => .no
    | _ => .no
  | .ex x ρ => .ex x ρ
  | .no => .no
def getK3 (k x : D) (ρ2 : En) : Option D → Out D
  | some (.dk _ ks xs) => match keyD k with
      | some q => match getD ks xs q with
        | some y => if shr y = true then .ok y ρ2 else .no
        | none => .ok x ρ2
      | none => .no
  | _ => .no
@[simp] theorem evGet2_eq (i : Nat) (fk fe : En → Out D) (vs : List Sv) (st : RSt) : evGet2 i fk fe ⟨vs, st⟩ = getK i fk fe ⟨vs, st⟩ (vs[i]?.bind Sv.get?) := by
  rw [evGet2]; dsimp only
  rcases vs[i]?.bind Sv.get? with _ | d
  · rfl
  · cases d <;> rfl
@[simp] theorem getK_ok (i : Nat) (fk fe : En → Out D) (ρ : En) (o : Bool) (ks : List Key) (xs : List D) : getK i fk fe ρ (some (.dk o ks xs)) = getK1 i fe (fk ρ) := by
  rw [getK, getK1.eq_def]; cases fk ρ <;> rfl
@[simp] theorem getK1_ok (i : Nat) (fe : En → Out D) (k : D) (ρ : En) : getK1 i fe (.ok k ρ) = getK2 i k (fe ρ) := by
  rw [getK1, getK2.eq_def]; cases fe ρ <;> rfl
@[simp] theorem getK2_ok (i : Nat) (k x : D) (vs : List Sv) (st : RSt) : getK2 i k (.ok x ⟨vs, st⟩) = getK3 k x ⟨vs, st⟩ (vs[i]?.bind Sv.get?) := by
  rw [getK2]; dsimp only
  rcases vs[i]?.bind Sv.get? with _ | d
  · rfl
  · cases d <;> rfl
/-! bits -/
@[simp] theorem opBAnd_i (i j : Int) : opBAnd [.int i, .int j] = some (.int (Builtin.bitAnd i j)) := (rfl)
@[simp] theorem opBOr_i (i j : Int) : opBOr [.int i, .int j] = some (.int (Builtin.bitOr i j)) := (rfl)
@[simp] theorem opBXor_i (i j : Int) : opBXor [.int i, .int j] = some (.int (Builtin.bitXor i j)) := (rfl)
/-! {k: e, ..} -/
def prsK1 (fv : En → Out D) (ps : List ((En → Out D) × (En → Out D))) : Out D → Out (List (Key × D))
  | .ok k ρ1 => (fv ρ1).bind fun x ρ2 => match keyD k with
    | some q => (evPrs ps ρ2).bind fun r ρ3 => .ok ((q, x) :: r) ρ3
    | none => .no
  | .ex x ρ => .ex x ρ
  | .no => .no
def prsK2 (k : D) (ps : List ((En → Out D) × (En → Out D))) : Out D → Out (List (Key × D))
  | .ok x ρ2 => match keyD k with
    | some q => (evPrs ps ρ2).bind fun r ρ3 => .ok ((q, x) :: r) ρ3
    | none => .no
  | .ex x ρ => .ex x ρ
  | .no => .no
def prsK3 (x : D) (ps : List ((En → Out D) × (En → Out D))) (ρ2 : En) : Option Key → Out (List (Key × D))
  | some q => (evPrs ps ρ2).bind fun r ρ3 => .ok ((q, x) :: r) ρ3
  | none => .no
def prsK4 (q : Key) (x : D) : Out (List (Key × D)) → Out (List (Key × D))
  | .ok r ρ3 => .ok ((q, x) :: r) ρ3
  | .ex x ρ => .ex x ρ
  | .no => .no
def dspK : Out (List (Key × D)) → Out D
  | .ok r ρ' => if (r.map (·.1)).Nodup ∧ r.length ≤ 15 then .ok (.dk true (r.map (·.1)) (r.map (·.2))) ρ' else .no
  | .ex x ρ => .ex x ρ
  | .no => .no
@[simp] theorem evPrs_nil (ρ : En) : evPrs [] ρ = .ok [] ρ := (rfl)
@[simp] theorem evPrs_cons (fk fv : En → Out D) (ps : List ((En → Out D) × (En → Out D))) (ρ : En) : evPrs ((fk, fv) :: ps) ρ = prsK1 fv ps (fk ρ) := by
  rw [evPrs, prsK1.eq_def]; cases fk ρ <;> rfl
@[simp] theorem prsK1_ok (fv : En → Out D) (ps : List ((En → Out D) × (En → Out D))) (k : D) (ρ : En) : prsK1 fv ps (.ok k ρ) = prsK2 k ps (fv ρ) := by
  rw [prsK1, prsK2.eq_def]; cases fv ρ <;> rfl
@[simp] theorem prsK2_ok (k : D) (ps : List ((En → Out D) × (En → Out D))) (x : D) (ρ : En) : prsK2 k ps (.ok x ρ) = prsK3 x ps ρ (keyD k) := by
  rw [prsK2, prsK3.eq_def] <;> cases keyD k <;> rfl
@[simp] theorem prsK3_some (x : D) (ps : List ((En → Out D) × (En → Out D))) (ρ : En) (q : Key) : prsK3 x ps ρ (some q) = prsK4 q x (evPrs ps ρ) := by
  rw [prsK3, prsK4.eq_def]; cases evPrs ps ρ <;> rfl
@[simp] theorem prsK4_ok (q : Key) (x : D) (r : List (Key × D)) (ρ : En) : prsK4 q x (.ok r ρ) = .ok ((q, x) :: r) ρ := (rfl)
@[simp] theorem evDisp_eq (ps : List ((En → Out D) × (En → Out D))) (ρ : En) : evDisp ps ρ = dspK (evPrs ps ρ) := by
  rw [evDisp, dspK.eq_def]; cases evPrs ps ρ <;> rfl
theorem dspK_ok {r : List (Key × D)} {ρ : En} (h : (r.map (·.1)).Nodup) (h2 : r.length ≤ 15) : dspK (.ok r ρ) = .ok (.dk true (r.map (·.1)) (r.map (·.2))) ρ := if_pos ⟨h, h2⟩
/-! a comprehension over an own list -/
def lcoF (i : Nat) (xs : List D) : Out (List D) → Out D
  | .ok ys ρ2 => match ρ2.vs[i]? with
      | some .no => .ok (.lst true ys) { ρ2 with vs := ρ2.vs.set i (.ow (.lst true xs)) }
      | _ => .no
  | .ex x ρ => .ex x ρ
  | .no => .no
def lcoG (i : Nat) (xs ys : List D) (ρ2 : En) : Option Sv → Out D
  | some .no => .ok (.lst true ys) { ρ2 with vs := ρ2.vs.set i (.ow (.lst true xs)) }
  | _ => .no
def lcoK (i : Nat) (t : D → En → Option En) (c : En → Out Bool) (elt : En → Out D) (own : List Nat) (ρ : En) : Option Sv → Out D
  | some (.ow (.lst true xs)) => if shrL xs = true then lcoF i xs (lcL t c elt own xs { ρ with vs := fgt (ρ.vs.set i .no) own })
    else evLc (itSeq (evVar i)) t c elt own ρ
  | _ => evLc (itSeq (evVar i)) t c elt own ρ
@[simp] theorem evLcO_eq (i : Nat) (t : D → En → Option En) (c : En → Out Bool) (elt : En → Out D) (own : List Nat) (vs : List Sv) (st : RSt) : evLcO i t c elt own ⟨vs, st⟩ = lcoK i t c elt own ⟨vs, st⟩ vs[i]? := by
  rw [evLcO]; dsimp only
  rcases vs[i]? with _ | (_ | d | d)
  · rfl
  · rfl
  · rfl
  · rcases d with _ | b | n | x | ⟨o, xs⟩ | xs | ⟨o, ks, xs⟩ | ⟨o, ks, xs⟩ | _ | ⟨o, C, fs, xs⟩ | ⟨C, fs, xs⟩ <;> first | rfl | (cases o <;> first | rfl | (simp only [lcoK, lcoF.eq_def]; split <;> first | rfl | (cases lcL t c elt own xs ⟨fgt (vs.set i .no) own, st⟩ <;> rfl)))
theorem lcoK_ow (i : Nat) (t : D → En → Option En) (c : En → Out Bool) (elt : En → Out D) (own : List Nat) (vs : List Sv) (st : RSt) {xs : List D} (h : shrL xs = true) : lcoK i t c elt own ⟨vs, st⟩ (some (.ow (.lst true xs))) = lcoF i xs (lcL t c elt own xs ⟨fgt (vs.set i .no) own, st⟩) := if_pos h
@[simp] theorem lcoK_sh (i : Nat) (t : D → En → Option En) (c : En → Out Bool) (elt : En → Out D) (own : List Nat) (ρ : En) (d : D) : lcoK i t c elt own ρ (some (.sh d)) = evLc (itSeq (evVar i)) t c elt own ρ := (rfl)
@[simp] theorem lcoF_ok (i : Nat) (xs ys : List D) (vs : List Sv) (st : RSt) : lcoF i xs (.ok ys ⟨vs, st⟩) = lcoG i xs ys ⟨vs, st⟩ vs[i]? := by
  rw [lcoF, lcoG.eq_def]
@[simp] theorem lcoG_no (i : Nat) (xs ys : List D) (vs : List Sv) (st : RSt) : lcoG i xs ys ⟨vs, st⟩ (some .no) = .ok (.lst true ys) ⟨vs.set i (.ow (.lst true xs)), st⟩ := (rfl)
/-! enumerate of any, reversed, is -/
def eaK : Out D → Out (List D)
  | .ok d ρ' => match seqOf d with
    | some p => .ok (enD 0 p.2) ρ'
    | none => .no
  | .ex x ρ => .ex x ρ
  | .no => .no
def eaK2 (ρ : En) : Option (Bool × List D) → Out (List D)
  | some p => .ok (enD 0 p.2) ρ
  | none => .no
@[simp] theorem itEnA_eq (f : En → Out D) (ρ : En) : itEnA f ρ = eaK (f ρ) := by
  rw [itEnA, eaK.eq_def]; cases f ρ <;> rfl
@[simp] theorem eaK_ok (d : D) (ρ : En) : eaK (.ok d ρ) = eaK2 ρ (seqOf d) := by
  rw [eaK, eaK2.eq_def]; first | done | (cases seqOf d <;> rfl)
@[simp] theorem eaK_ex (x : Exc) (ρ : En) : eaK (.ex x ρ) = .ex x ρ := (rfl)
@[simp] theorem eaK2_some (p : Bool × List D) (ρ : En) : eaK2 ρ (some p) = .ok (enD 0 p.2) ρ := (rfl)
def rvK : Out D → Out (List D)
  | .ok d ρ' => match seqOf d with
    | some p => .ok p.2.reverse ρ'
    | none => .no
  | .ex x ρ => .ex x ρ
  | .no => .no
def rvK2 (ρ : En) : Option (Bool × List D) → Out (List D)
  | some p => .ok p.2.reverse ρ
  | none => .no
@[simp] theorem itRev_eq (f : En → Out D) (ρ : En) : itRev f ρ = rvK (f ρ) := by
  rw [itRev, rvK.eq_def]; cases f ρ <;> rfl
@[simp] theorem rvK_ok (d : D) (ρ : En) : rvK (.ok d ρ) = rvK2 ρ (seqOf d) := by
  rw [rvK, rvK2.eq_def]; first | done | (cases seqOf d <;> rfl)
@[simp] theorem rvK_ex (x : Exc) (ρ : En) : rvK (.ex x ρ) = .ex x ρ := (rfl)
@[simp] theorem rvK2_some (p : Bool × List D) (ρ : En) : rvK2 ρ (some p) = .ok p.2.reverse ρ := (rfl)
@[simp] theorem opIsB_b (a b : Bool) : opIsB [.bl a, .bl b] = some (.bl (decide (a = b))) := (rfl)
@[simp] theorem opIsNB_b (a b : Bool) : opIsNB [.bl a, .bl b] = some (.bl (!decide (a = b))) := (rfl)
/-! walks over dicts -/
def fdK (κ : KI) (t : D → En → Option En) (body : En → Out Fl) (fg : List Nat) : Out D → Out Fl
  | .ok d ρ1 => match viewD κ d with
    | some ds => noEx (forL t body fg ds ρ1)
    | none => .no
  | .ex x ρ => .ex x ρ
  | .no => .no
def fd2 (t : D → En → Option En) (body : En → Out Fl) (fg : List Nat) (ρ1 : En) : Option (List D) → Out Fl
  | some ds => noEx (forL t body fg ds ρ1)
  | none => .no
@[simp] theorem sForD_eq (κ : KI) (i : Nat) (t : D → En → Option En) (body : En → Out Fl) (fg : List Nat) (ρ : En) : sForD κ i t body fg ρ = fdK κ t body fg (evVar i ρ) := by
  rw [sForD, fdK.eq_def]; cases evVar i ρ <;> rfl
@[simp] theorem fdK_ok (κ : KI) (t : D → En → Option En) (body : En → Out Fl) (fg : List Nat) (d : D) (ρ : En) : fdK κ t body fg (.ok d ρ) = fd2 t body fg ρ (viewD κ d) := by
  rw [fdK, fd2.eq_def]; first | done | (cases viewD κ d <;> rfl)
@[simp] theorem fd2_some (t : D → En → Option En) (body : En → Out Fl) (fg : List Nat) (ds : List D) (ρ : En) : fd2 t body fg ρ (some ds) = noEx (forL t body fg ds ρ) := (rfl)
def ldK (κ : KI) (t : D → En → Option En) (c : En → Out Bool) (elt : En → Out D) (own : List Nat) : Out D → Out D
  | .ok d ρ1 => match viewD κ d with
    | some ds => lstK (noEx (lcL t c elt own ds { ρ1 with vs := fgt ρ1.vs own }))
    | none => .no
  | .ex x ρ => .ex x ρ
  | .no => .no
def ld2 (t : D → En → Option En) (c : En → Out Bool) (elt : En → Out D) (own : List Nat) (ρ1 : En) : Option (List D) → Out D
  | some ds => lstK (noEx (lcL t c elt own ds { ρ1 with vs := fgt ρ1.vs own }))
  | none => .no
@[simp] theorem evLcD_eq (κ : KI) (i : Nat) (t : D → En → Option En) (c : En → Out Bool) (elt : En → Out D) (own : List Nat) (ρ : En) : evLcD κ i t c elt own ρ = ldK κ t c elt own (evVar i ρ) := by
  rw [evLcD, ldK.eq_def]
  cases evVar i ρ with
  | ok d ρ1 =>
    simp only [Out.bind]
    cases viewD κ d with
    | none => rfl
    | some ds => simp only; cases noEx (lcL t c elt own ds { ρ1 with vs := fgt ρ1.vs own }) <;> rfl
  | _ => rfl
@[simp] theorem ldK_ok (κ : KI) (t : D → En → Option En) (c : En → Out Bool) (elt : En → Out D) (own : List Nat) (d : D) (ρ : En) : ldK κ t c elt own (.ok d ρ) = ld2 t c elt own ρ (viewD κ d) := by
  rw [ldK, ld2.eq_def]; first | done | (cases viewD κ d <;> rfl)
@[simp] theorem ld2_some (t : D → En → Option En) (c : En → Out Bool) (elt : En → Out D) (own : List Nat) (ds : List D) (vs : List Sv) (st : RSt) : ld2 t c elt own ⟨vs, st⟩ (some ds) = lstK (noEx (lcL t c elt own ds ⟨fgt vs own, st⟩)) := (rfl)
@[simp] theorem noEx_okK {α : Type} (a : α) (ρ : En) : noEx (.ok a ρ : Out α) = .ok a ρ := (rfl)
end Fw

/- part FwW -/
namespace Fw
open PySem L2
/-! ### what an outcome must be -/
@[irreducible] def Ob {α : Type} (o : Out α) (Q : α → En → Prop) : Prop := match o with
  | .ok a ρ => Q a ρ
  | _ => False
@[simp] theorem Ob_ok {α : Type} (a : α) (ρ : En) (Q : α → En → Prop) : Ob (.ok a ρ) Q = Q a ρ := by rw [Ob]
theorem Ob_ex {α : Type} (a : Exc) (ρ : En) (Q : α → En → Prop) : Ob (.ex a ρ) Q = False := by rw [Ob]; nofun
theorem Ob_no {α : Type} (Q : α → En → Prop) : Ob .no Q = False := by rw [Ob]; nofun
theorem Ob_iff {α : Type} {o : Out α} {Q : α → En → Prop} : Ob o Q ↔ ∃ a ρ, o = .ok a ρ ∧ Q a ρ := by
  cases o with
  | ok a ρ => rw [Ob_ok]; exact ⟨fun h => ⟨a, ρ, rfl, h⟩, fun ⟨_, _, e, h⟩ => by cases e; exact h⟩
  | ex x ρ => rw [Ob_ex]; exact ⟨fun h => h.elim, fun ⟨_, _, e, h⟩ => by cases e⟩
  | no => rw [Ob_no]; exact ⟨fun h => h.elim, fun ⟨_, _, e, h⟩ => by cases e⟩
theorem Ob.mono {α : Type} {o : Out α} {Q Q' : α → En → Prop} (h : Ob o Q) (k : ∀ a ρ, Q a ρ → Q' a ρ) : Ob o Q' := by
  obtain ⟨a, ρ, e, q⟩ := Ob_iff.mp h
  exact Ob_iff.mpr ⟨a, ρ, e, k _ _ q⟩
@[irreducible] def Rb (r : Res) (Q : D → RSt → Prop) : Prop := match r with
  | .ok d st => Q d st
  | _ => False
@[simp] theorem Rb_ok (d : D) (st : RSt) (Q : D → RSt → Prop) : Rb (.ok d st) Q = Q d st := by rw [Rb]
theorem Rb_ex (x : Exc) (st : RSt) (Q : D → RSt → Prop) : Rb (.ex x st) Q = False := by rw [Rb]; nofun
theorem Rb_no (Q : D → RSt → Prop) : Rb .no Q = False := by rw [Rb]; nofun
theorem Rb_iff {r : Res} {Q : D → RSt → Prop} : Rb r Q ↔ ∃ d st, r = .ok d st ∧ Q d st := by
  cases r with
  | ok a ρ => rw [Rb_ok]; exact ⟨fun h => ⟨a, ρ, rfl, h⟩, fun ⟨_, _, e, h⟩ => by cases e; exact h⟩
  | ex x ρ => rw [Rb_ex]; exact ⟨fun h => h.elim, fun ⟨_, _, e, h⟩ => by cases e⟩
  | no => rw [Rb_no]; exact ⟨fun h => h.elim, fun ⟨_, _, e, h⟩ => by cases e⟩
/-- what a def's end must be -/
def rtQ (Q : D → RSt → Prop) (fl : Fl) (ρ : En) : Prop := match fl with | .nx => Q .non ρ.st | .rt d => Q d ρ.st | _ => False
@[simp] theorem rtQ_rt (Q : D → RSt → Prop) (d : D) (vs : List Sv) (st : RSt) : rtQ Q (.rt d) ⟨vs, st⟩ = Q d st := (rfl)
@[simp] theorem rtQ_nx (Q : D → RSt → Prop) (vs : List Sv) (st : RSt) : rtQ Q .nx ⟨vs, st⟩ = Q .non st := (rfl)
theorem Rb.of {g : En → Out Fl} {k : Nat} {ds : List D} {st : RSt} {Q : D → RSt → Prop} (h : Ob (g ⟨ds.map .sh ++ List.replicate k .no, st⟩) (rtQ Q)) : Rb (fnRes g k ds st) Q := by
  obtain ⟨fl, ρ, e, q⟩ := Ob_iff.mp h
  obtain ⟨vs, st'⟩ := ρ
  rw [fnRes_eq, e]
  cases fl with
  | nx => rw [fnK_nx, Rb_ok]; exact q
  | rt d => rw [fnK_rt, Rb_ok]; exact q
  | bk => exact q.elim
  | ct => exact q.elim

/-! ### loops -/
theorem forL_inv {α : Type} {t : D → En → Option En} {body : En → Out Fl} {fg : List Nat} {toD : α → D} (I : List α → En → Prop) : ∀ (xs done : List α) (ρ : En), I done ρ →
    (∀ pre x post ρ, done ++ xs = pre ++ x :: post → I pre ρ → ∃ ρ1, t (toD x) ρ = some ρ1 ∧ Ob (body ρ1) fun fl ρ2 => (fl = .nx ∨ fl = .ct) ∧ I (pre ++ [x]) ⟨fgt ρ2.vs fg, ρ2.st⟩) →
    ∃ ρ', forL t body fg (xs.map toD) ρ = .ok .nx ρ' ∧ I (done ++ xs) ρ'
  | [], done, ρ, h0, _ => ⟨ρ, rfl, by simpa using h0⟩
  | x :: xs, done, ρ, h0, step => by
    obtain ⟨ρ1, e1, h1⟩ := step done x xs ρ rfl h0
    obtain ⟨fl, ρ2, e2, hfl, h2⟩ := Ob_iff.mp h1
    obtain ⟨ρ', e3, h3⟩ := forL_inv I xs (done ++ [x]) ⟨fgt ρ2.vs fg, ρ2.st⟩ h2 (fun pre y post ρ e => step pre y post ρ (by rw [← e]; simp))
    refine ⟨ρ', ?_, by simpa using h3⟩
    rw [List.map_cons, forL_cons, e1, flKo_some, e2]
    obtain ⟨vs, st⟩ := ρ2
    rcases hfl with rfl | rfl
    · rw [flK_nx]; exact e3
    · rw [flK_ct]; exact e3
/-- a loop that may be left by a return or a break -/
theorem forL_inv2 {α : Type} {t : D → En → Option En} {body : En → Out Fl} {fg : List Nat} {toD : α → D} (I : List α → En → Prop) (Z : Fl → En → Prop) : ∀ (xs done : List α) (ρ : En), I done ρ →
    (∀ pre x post ρ, done ++ xs = pre ++ x :: post → I pre ρ → ∃ ρ1, t (toD x) ρ = some ρ1 ∧ Ob (body ρ1) fun fl ρ2 => match fl with | .nx => I (pre ++ [x]) ⟨fgt ρ2.vs fg, ρ2.st⟩ | .ct => I (pre ++ [x]) ⟨fgt ρ2.vs fg, ρ2.st⟩ | .bk => Z .nx ρ2 | .rt d => Z (.rt d) ρ2) →
    Ob (forL t body fg (xs.map toD) ρ) fun fl ρ' => (fl = .nx ∧ I (done ++ xs) ρ') ∨ Z fl ρ'
  | [], done, ρ, h0, _ => by rw [List.map_nil, forL_nil, Ob_ok]; exact .inl ⟨rfl, by simpa using h0⟩
  | x :: xs, done, ρ, h0, step => by
    obtain ⟨ρ1, e1, h1⟩ := step done x xs ρ rfl h0
    obtain ⟨fl, ρ2, e2, h2⟩ := Ob_iff.mp h1
    rw [List.map_cons, forL_cons, e1, flKo_some, e2]
    obtain ⟨vs, st⟩ := ρ2
    cases fl with
    | nx =>
      rw [flK_nx]
      have := forL_inv2 I Z xs (done ++ [x]) ⟨fgt vs fg, st⟩ h2 (fun pre y post ρ e => step pre y post ρ (by rw [← e]; simp))
      simpa using this
    | ct =>
      rw [flK_ct]
      have := forL_inv2 I Z xs (done ++ [x]) ⟨fgt vs fg, st⟩ h2 (fun pre y post ρ e => step pre y post ρ (by rw [← e]; simp))
      simpa using this
    | bk => rw [flK_bk, Ob_ok]; exact .inr h2
    | rt d => rw [flK_rt, Ob_ok]; exact .inr h2
theorem ob_forL {α : Type} {t : D → En → Option En} {body : En → Out Fl} {fg : List Nat} {toD : α → D} {xs : List α} {ρ : En} {Q : Fl → En → Prop} (I : List α → En → Prop) (h0 : I [] ρ)
    (step : ∀ pre x post ρ, xs = pre ++ x :: post → I pre ρ → ∃ ρ1, t (toD x) ρ = some ρ1 ∧ Ob (body ρ1) fun fl ρ2 => (fl = .nx ∨ fl = .ct) ∧ I (pre ++ [x]) ⟨fgt ρ2.vs fg, ρ2.st⟩)
    (k : ∀ ρ', I xs ρ' → Q .nx ρ') : Ob (forL t body fg (xs.map toD) ρ) Q := by
  obtain ⟨ρ', e, h⟩ := forL_inv I xs [] ρ h0 (fun pre x post ρ e => step pre x post ρ e)
  rw [e, Ob_ok]; exact k ρ' h
theorem ob_for {α : Type} {t : D → En → Option En} {body g : En → Out Fl} {fg : List Nat} {toD : α → D} {xs : List α} {ρ : En} {Q : Fl → En → Prop} (I : List α → En → Prop) (h0 : I [] ρ)
    (step : ∀ pre x post ρ, xs = pre ++ x :: post → I pre ρ → ∃ ρ1, t (toD x) ρ = some ρ1 ∧ Ob (body ρ1) fun fl ρ2 => (fl = .nx ∨ fl = .ct) ∧ I (pre ++ [x]) ⟨fgt ρ2.vs fg, ρ2.st⟩)
    (k : ∀ ρ', I xs ρ' → Ob (g ρ') Q) : Ob (sqK g (forL t body fg (xs.map toD) ρ)) Q := by
  obtain ⟨ρ', e, h⟩ := forL_inv I xs [] ρ h0 (fun pre x post ρ e => step pre x post ρ e)
  rw [e, sqK_nx]; exact k ρ' h

@[simp] theorem Ob_noEx {α : Type} {o : Out α} {Q : α → En → Prop} : Ob (noEx o) Q = Ob o Q := by
  cases o with
  | ok a ρ => rfl
  | ex x ρ => rw [Ob_ex]; exact Ob_no Q
  | no => rfl
theorem ob_sqN {g : En → Out Fl} {o : Out Fl} {Q : Fl → En → Prop} (h : Ob (sqK g o) Q) (h2 : ∀ x ρ, o ≠ .ex x ρ) : Ob (sqK g (noEx o)) Q := by
  cases o with
  | ok a ρ => exact h
  | ex x ρ => exact absurd rfl (h2 x ρ)
  | no => exact h
/-! ### comprehensions -/
def lcS (t : D → En → Option En) (c : En → Out Bool) (elt : En → Out D) (own : List Nat) (d : D) (ρ : En) : Out (Option D) := match t d ρ with
  | none => .no
  | some ρ1 => (noEx (c ρ1)).bind fun b ρ2 => if b = true then (noEx (elt ρ2)).bind fun y ρ3 => .ok (some y) { ρ3 with vs := fgt ρ3.vs own } else .ok none { ρ2 with vs := fgt ρ2.vs own }
def lcS1 (c : En → Out Bool) (elt : En → Out D) (own : List Nat) : Option En → Out (Option D)
  | none => .no
  | some ρ1 => (noEx (c ρ1)).bind fun b ρ2 => if b = true then (noEx (elt ρ2)).bind fun y ρ3 => .ok (some y) { ρ3 with vs := fgt ρ3.vs own } else .ok none { ρ2 with vs := fgt ρ2.vs own }
def lcS2 (elt : En → Out D) (own : List Nat) : Out Bool → Out (Option D)
  | .ok true ρ2 => (noEx (elt ρ2)).bind fun y ρ3 => .ok (some y) { ρ3 with vs := fgt ρ3.vs own }
  | .ok false ρ2 => .ok none { ρ2 with vs := fgt ρ2.vs own }
  | _ => .no
def lcS3 (own : List Nat) : Out D → Out (Option D)
  | .ok y ρ3 => .ok (some y) { ρ3 with vs := fgt ρ3.vs own }
  | _ => .no
@[simp] theorem lcS_eq (t : D → En → Option En) (c : En → Out Bool) (elt : En → Out D) (own : List Nat) (d : D) (ρ : En) : lcS t c elt own d ρ = lcS1 c elt own (t d ρ) := by
  rw [lcS, lcS1.eq_def]
@[simp] theorem lcS1_some (c : En → Out Bool) (elt : En → Out D) (own : List Nat) (ρ : En) : lcS1 c elt own (some ρ) = lcS2 elt own (c ρ) := by
  rw [lcS1]
  cases c ρ with
  | ok b ρ => cases b <;> rfl
  | _ => rfl
@[simp] theorem lcS2_t (elt : En → Out D) (own : List Nat) (ρ : En) : lcS2 elt own (.ok true ρ) = lcS3 own (elt ρ) := by
  rw [lcS2]; cases elt ρ <;> rfl
@[simp] theorem lcS2_f (elt : En → Out D) (own : List Nat) (vs : List Sv) (st : RSt) : lcS2 elt own (.ok false ⟨vs, st⟩) = .ok none ⟨fgt vs own, st⟩ := (rfl)
@[simp] theorem lcS3_ok (own : List Nat) (y : D) (vs : List Sv) (st : RSt) : lcS3 own (.ok y ⟨vs, st⟩) = .ok (some y) ⟨fgt vs own, st⟩ := (rfl)
def lcCons : Option D → Out (List D) → Out (List D)
  | some y, .ok ys ρ => .ok (y :: ys) ρ
  | none, .ok ys ρ => .ok ys ρ
  | _, .ex x ρ => .ex x ρ
  | _, .no => .no
theorem lcL_cons {t : D → En → Option En} {c : En → Out Bool} {elt : En → Out D} {own : List Nat} {d : D} {ds : List D} {ρ ρ' : En} {o : Option D} (h : lcS t c elt own d ρ = .ok o ρ') : lcL t c elt own (d :: ds) ρ = lcCons o (lcL t c elt own ds ρ') := by
  rw [lcS_eq] at h
  rw [lcL]
  cases e : t d ρ with
  | none => rw [e] at h; cases h
  | some ρ1 =>
    rw [e, lcS1_some] at h
    simp only
    cases e2 : c ρ1 with
    | ok b ρ2 =>
      rw [e2] at h
      obtain ⟨vs2, st2⟩ := ρ2
      cases b with
      | true =>
        rw [lcS2_t] at h
        simp only [noEx, Out.bind, if_pos]
        cases e3 : elt ⟨vs2, st2⟩ with
        | ok y ρ3 =>
          obtain ⟨vs3, st3⟩ := ρ3
          rw [e3, lcS3_ok] at h
          cases h
          simp only [noEx, Out.bind]
          cases lcL t c elt own ds ⟨fgt vs3 own, st3⟩ <;> rfl
        | ex x ρ3 => rw [e3] at h; cases h
        | no => rw [e3] at h; cases h
      | false =>
        rw [lcS2_f] at h
        cases h
        simp only [noEx, Out.bind]
        cases lcL t c elt own ds ⟨fgt vs2 own, st2⟩ <;> rfl
    | ex x ρ2 => rw [e2] at h; cases h
    | no => rw [e2] at h; cases h
theorem lc_fm {α : Type} {t : D → En → Option En} {c : En → Out Bool} {elt : En → Out D} {own : List Nat} {toD : α → D} {xs : List α} {ρ : En} (p : α → Bool) (f : α → D)
    (h : ∀ x ∈ xs, lcS t c elt own (toD x) ρ = .ok (if p x = true then some (f x) else none) ρ) : lcL t c elt own (xs.map toD) ρ = .ok ((xs.filter p).map f) ρ := by
  induction xs with
  | nil => rfl
  | cons x xs ih =>
    rw [List.map_cons, lcL_cons (h x List.mem_cons_self), ih fun y hy => h y (List.mem_cons_of_mem _ hy)]
    by_cases hp : p x = true
    · rw [if_pos hp, List.filter_cons_of_pos hp]; rfl
    · rw [if_neg hp, List.filter_cons_of_neg hp]; rfl
theorem lc_map {α : Type} {t : D → En → Option En} {c : En → Out Bool} {elt : En → Out D} {own : List Nat} {toD : α → D} {xs : List α} {ρ : En} (f : α → D)
    (h : ∀ x ∈ xs, lcS t c elt own (toD x) ρ = .ok (some (f x)) ρ) : lcL t c elt own (xs.map toD) ρ = .ok (xs.map f) ρ := by
  induction xs with
  | nil => rfl
  | cons x xs ih =>
    rw [List.map_cons, lcL_cons (h x List.mem_cons_self), ih fun y hy => h y (List.mem_cons_of_mem _ hy)]
    rfl

/-! ### draws -/
def Gd (r : Nat) (st : RSt) : Prop := st.cells ≠ [] ∧ st.cells.length ≤ 63 ∧ 0 ≤ st.turn ∧ st.turn + r < 2 ^ 60
theorem Gd.mono {r r' : Nat} {st : RSt} (h : Gd r st) (k : r' ≤ r) : Gd r' st := ⟨h.1, h.2.1, h.2.2.1, by have := h.2.2.2; omega⟩
theorem take_gd {st : RSt} {n : Int} {r : Nat} (g : Gd (r + 1) st) (h0 : 0 < n) (h1 : n < 1073741824) : ∃ x st', takeD [.rs, .int n] st = .ok (.int x) st' ∧ 0 ≤ x ∧ x < n ∧ Gd r st' := by
  obtain ⟨g1, g2, g3, g4⟩ := g
  have hl : 0 < st.cells.length := List.length_pos_iff.mpr g1
  have ok : takeOk st n = true := by
    unfold takeOk
    simp only [Bool.and_eq_true, decide_eq_true_eq]
    refine ⟨⟨⟨⟨⟨h0, h1⟩, g3⟩, ?_⟩, hl⟩, g2⟩
    omega
  refine ⟨_, _, if_pos ok, (takeF_range st n h0).1, (takeF_range st n h0).2, ?_, ?_, ?_, ?_⟩
  · intro z
    have := takeF_cells st n
    rw [z] at this
    simp at this
    omega
  · rw [takeF_cells]; exact g2
  · rw [takeF_turn]; omega
  · rw [takeF_turn]; omega
theorem gd_start (ns : List Int) (h : ns.length ≤ 63) : Gd (2 ^ 50) ⟨cellsF ns, 0⟩ := by
  unfold cellsF
  refine ⟨?_, ?_, Int.le_refl _, by show (0 : Int) + ((2 ^ 50 : Nat) : Int) < 2 ^ 60; decide⟩
  · show (if ns = [] then [7] else ns) ≠ []
    split
    · simp
    · assumption
  · show (if ns = [] then [7] else ns).length ≤ 63
    split
    · simp
    · exact h
/-- a comprehension that draws -/
theorem lc_rand {α β : Type} {t : D → En → Option En} {c : En → Out Bool} {elt : En → Out D} {own : List Nat} {toD : α → D} {vs : List Sv} (f : β → D) (P : α → β → Prop) (k : Nat) : ∀ {xs : List α} {st : RSt} {r : Nat},
    (∀ x ∈ xs, ∀ r st, Gd (r + k) st → Ob (lcS t c elt own (toD x) ⟨vs, st⟩) fun o ρ' => ∃ y, o = some (f y) ∧ ρ'.vs = vs ∧ P x y ∧ Gd r ρ'.st) →
    Gd (r + k * xs.length) st → ∃ (ys : List β) (st' : RSt), lcL t c elt own (xs.map toD) ⟨vs, st⟩ = .ok (ys.map f) ⟨vs, st'⟩ ∧ ys.length = xs.length ∧ (∀ (i : Nat) (x : α) (y : β), xs[i]? = some x → ys[i]? = some y → P x y) ∧ Gd r st'
  | [], st, r, _, g => ⟨[], st, rfl, rfl, fun i x y h => by simp at h, by simpa using g⟩
  | x :: xs, st, r, h, g => by
    obtain ⟨o, ρ', e, y, ho, hv, hp, g1⟩ := Ob_iff.mp (h x List.mem_cons_self (r + k * xs.length) st (by
      rw [List.length_cons, Nat.mul_add, Nat.mul_one] at g
      rwa [← Nat.add_assoc] at g))
    subst ho
    obtain ⟨vs', st'⟩ := ρ'
    dsimp only at hv g1
    subst hv
    obtain ⟨ys, st2, e2, hl, hq, g2⟩ := lc_rand f P k (r := r) (fun x hx => h x (List.mem_cons_of_mem _ hx)) g1
    refine ⟨y :: ys, st2, ?_, by simp [hl], fun i x' y' h1 h2 => ?_, g2⟩
    · rw [List.map_cons, lcL_cons e, e2]; rfl
    · cases i with
      | zero => simp at h1 h2; subst h1; subst h2; exact hp
      | succ i => exact hq i x' y' (by simpa using h1) (by simpa using h2)

/-- the same, from where the comprehension stands: generalize e : lcL _ _ _ _ _ _ = L -/
theorem lc_rd {α β : Type} {t : D → En → Option En} {c : En → Out Bool} {elt : En → Out D} {own : List Nat} {toD : α → D} {vs : List Sv} {xs : List α} {st : RSt} {L : Out (List D)} (e : lcL t c elt own (xs.map toD) ⟨vs, st⟩ = L) (f : β → D) (P : α → β → Prop) (k r : Nat)
    (g : Gd (r + k * xs.length) st)
    (h : ∀ x ∈ xs, ∀ r st, Gd (r + k) st → Ob (lcS t c elt own (toD x) ⟨vs, st⟩) fun o ρ' => ∃ y, o = some (f y) ∧ ρ'.vs = vs ∧ P x y ∧ Gd r ρ'.st) :
    ∃ (ys : List β) (st' : RSt), L = .ok (ys.map f) ⟨vs, st'⟩ ∧ ys.length = xs.length ∧ (∀ (i : Nat) (x : α) (y : β), xs[i]? = some x → ys[i]? = some y → P x y) ∧ Gd r st' := by
  rw [← e]; exact lc_rand f P k h g
/-! ### typed data -/
@[simp] theorem shrL_map' {α : Type} {f : α → D} {xs : List α} (h : ∀ x ∈ xs, shr (f x) = true) : shrL (xs.map f) = true := shrL_all.mpr fun d hd => by
  obtain ⟨x, hx, rfl⟩ := List.mem_map.mp hd
  exact h x hx
@[simp] theorem frzL_map' {α : Type} {f : α → D} {xs : List α} : frzL (xs.map f) = xs.map fun x => frz (f x) := by
  induction xs with
  | nil => simp
  | cons x xs ih => simp [ih]
@[simp] theorem cloL_map' {α : Type} {f : α → D} {xs : List α} (h : ∀ x ∈ xs, clo (f x) = true) : cloL (xs.map f) = true := by
  induction xs with
  | nil => simp
  | cons x xs ih => simp [h x List.mem_cons_self, ih fun y hy => h y (List.mem_cons_of_mem _ hy)]
@[simp] theorem frzL_append (a b : List D) : frzL (a ++ b) = frzL a ++ frzL b := by
  induction a with
  | nil => simp
  | cons x xs ih => simp [ih]
@[simp] theorem cloL_append (a b : List D) : cloL (a ++ b) = (cloL a && cloL b) := by
  induction a with
  | nil => simp
  | cons x xs ih => simp [ih, Bool.and_assoc]
@[simp] theorem seqOf_ts {xs : List D} (h : shrL xs = true) : seqOf (.tup xs) = some (false, xs) := seqOf_tp' h
@[simp] theorem seqOf_ls {o : Bool} {xs : List D} (h : shrL xs = true) : seqOf (.lst o xs) = some (true, xs) := by
  cases o
  · rfl
  · exact seqOf_lt h
@[simp] theorem shrL_drop {xs : List D} (n : Nat) (h : shrL xs = true) : shrL (xs.drop n) = true := shrL_all.mpr fun d hd => shrL_all.mp h d (List.mem_of_mem_drop hd)
@[simp] theorem shrL_take {xs : List D} (n : Nat) (h : shrL xs = true) : shrL (xs.take n) = true := shrL_all.mpr fun d hd => shrL_all.mp h d (List.mem_of_mem_take hd)
@[simp] theorem shrL_reverse {xs : List D} (h : shrL xs = true) : shrL xs.reverse = true := shrL_all.mpr fun d hd => shrL_all.mp h d (by simpa using hd)
@[simp] theorem shrL_replicate {d : D} (n : Nat) (h : shr d = true) : shrL (List.replicate n d) = true := shrL_all.mpr fun x hd => by rw [(List.mem_replicate.mp hd).2]; exact h
theorem sorted_len {a b : Int} : ∀ {xs : List Int}, xs.Pairwise (· < ·) → (∀ x ∈ xs, a ≤ x ∧ x < b) → xs.length ≤ (b - a).toNat
  | [], _, _ => Nat.zero_le _
  | x :: xs, s, h => by
    obtain ⟨s1, s2⟩ := List.pairwise_cons.mp s
    have hx := h x List.mem_cons_self
    have ih := sorted_len (a := x + 1) (b := b) s2 fun y hy => ⟨by have := s1 y hy; omega, (h y (List.mem_cons_of_mem _ hy)).2⟩
    rw [List.length_cons]
    omega
abbrev isD (xs : List Int) : List D := xs.map .int
abbrev tI (xs : List Int) : D := .tup (isD xs)
abbrev lI (o : Bool) (xs : List Int) : D := .lst o (isD xs)
abbrev netD (N : List (List Int)) : D := .tup (N.map tI)
@[simp] theorem shrL_isD (xs : List Int) : shrL (xs.map .int) = true := shrL_map (by simp) xs
@[simp] theorem shrL_tI (N : List (List Int)) : shrL (N.map fun x => .tup (x.map .int)) = true := shrL_map (by simp) N
@[simp] theorem cloL_isD (xs : List Int) : cloL (xs.map .int) = true := cloL_map (by simp) xs
@[simp] theorem intsOf_map (xs : List Int) : intsOf (xs.map .int) = some xs := by
  induction xs with
  | nil => rfl
  | cons x xs ih => simp [intsOf, ih]
@[simp] theorem blsOf_map {α : Type} (f : α → Bool) (xs : List α) : blsOf (xs.map fun x => .bl (f x)) = some (xs.map f) := by
  induction xs with
  | nil => rfl
  | cons x xs ih => simp [blsOf, ih]
@[simp] theorem flDs_map (xs : List Int) : flDs (xs.map .int) = some (xs.map V.int) := by
  induction xs with
  | nil => rfl
  | cons x xs ih => simp [flDs, flD, ih]
theorem inV_int (i : Int) (xs : List Int) : inV (.int i) (xs.map V.int) = decide (i ∈ xs) := by
  unfold inV
  induction xs with
  | nil => rfl
  | cons x xs ih =>
    rw [List.map_cons, List.any_cons, ih]
    show (x == i || _) = _
    by_cases h : x = i
    · subst h; simp
    · have h' : i ≠ x := fun z => h z.symm
      simp [h, h']
@[simp] theorem opIn_t (neg : Bool) (i : Int) (xs : List Int) : opIn neg [.int i, .tup (xs.map .int)] = some (.bl (if neg = true then !decide (i ∈ xs) else decide (i ∈ xs))) := by
  simp [opIn, inD, flD, inV_int]
@[simp] theorem opIn_l (neg : Bool) (i : Int) (o : Bool) (xs : List Int) : opIn neg [.int i, .lst o (xs.map .int)] = some (.bl (if neg = true then !decide (i ∈ xs) else decide (i ∈ xs))) := by
  simp [opIn, inD, flD, inV_int]
@[simp] theorem opIn_t0 (neg : Bool) (i : Int) : opIn neg [.int i, .tup []] = some (.bl neg) := by
  have := opIn_t neg i []
  cases neg <;> simpa using this
@[simp] theorem opIn_l0 (neg : Bool) (i : Int) (o : Bool) : opIn neg [.int i, .lst o []] = some (.bl neg) := by
  have := opIn_l neg i o []
  cases neg <;> simpa using this
@[simp] theorem opAll_b {α : Type} (o : Bool) (f : α → Bool) (xs : List α) : opAll [.lst o (xs.map fun x => .bl (f x))] = some (.bl (xs.all f)) := by
  simp [opAll]
@[simp] theorem opAny_b {α : Type} (o : Bool) (f : α → Bool) (xs : List α) : opAny [.lst o (xs.map fun x => .bl (f x))] = some (.bl (xs.any f)) := by
  simp [opAny]
@[simp] theorem opSum_i (o : Bool) (xs : List Int) : opSum [.lst o (xs.map .int)] = some (.int xs.sum) := by simp [opSum]
@[simp] theorem opSort_i (o : Bool) (xs : List Int) : opSort [.lst o (xs.map .int)] = some (.lst true ((sortI xs).map .int)) := by simp [opSort]
theorem opSSet_i (o : Bool) {xs : List Int} (h : xs.length < 4000) : opSSet [.lst o (xs.map .int)] = some (.lst true ((sortU xs).map .int)) := by simp [opSSet, h]
theorem opSSet_t {xs : List Int} (h : xs.length < 4000) : opSSet [.tup (xs.map .int)] = some (.lst true ((sortU xs).map .int)) := by simp [opSSet, h]
@[simp] theorem opSort_t (xs : List Int) : opSort [.tup (xs.map .int)] = some (.lst true ((sortI xs).map .int)) := by simp [opSort]
theorem opSort_d (o : Bool) {ks : List Int} (xs : List D) (h : ks.length ≤ 16777216) : opSort [.dk o (ks.map Sum.inl) xs] = some (.lst true ((sortI ks).map .int)) := by
  have e : ∀ ks : List Int, intKeys (ks.map Sum.inl) = some ks := fun ks => by
    induction ks with
    | nil => rfl
    | cons k ks ih => simp [intKeys, ih]
  unfold opSort
  simp only [e, List.length_map, PySem.sizeLine_eq, if_pos h, Option.map_some]
@[simp] theorem opSort_0 (o : Bool) : opSort [.lst o []] = some (.lst true []) := opSort_i o []
@[simp] theorem opSSet_0 (o : Bool) : opSSet [.lst o []] = some (.lst true []) := opSSet_i o (xs := []) (by decide)
theorem opMaxL_i (o : Bool) {xs : List Int} (h : xs ≠ []) : opMaxL [.lst o (xs.map .int)] = some (.int (maxI xs)) := by
  simp [opMaxL, h]
theorem opMinL_i (o : Bool) {xs : List Int} (h : xs ≠ []) : opMinL [.lst o (xs.map .int)] = some (.int (minI xs)) := by
  simp [opMinL, h]
@[simp] theorem opTuple_l (o : Bool) {xs : List D} (h : shrL xs = true) : opTuple [.lst o xs] = some (.tup xs) := by simp [opTuple, h]
@[simp] theorem opTuple_t {xs : List D} (h : shrL xs = true) : opTuple [.tup xs] = some (.tup xs) := by simp [opTuple, h]
@[simp] theorem opList_l (o : Bool) {xs : List D} (h : shrL xs = true) : opList [.lst o xs] = some (.lst true xs) := by simp [opList, h]
@[simp] theorem opList_t {xs : List D} (h : shrL xs = true) : opList [.tup xs] = some (.lst true xs) := by simp [opList, h]
@[simp] theorem opIxA_t {xs : List D} (i : Int) (h : shrL xs = true) : opIxA [.tup xs, .int i] = atI xs i := by
  show opIx [.tup xs, .int i] = _
  simp [opIx, h]
@[simp] theorem opIxA_l {xs : List D} (o : Bool) (i : Int) (h : shrL xs = true) : opIxA [.lst o xs, .int i] = atI xs i := by
  show opIx [.lst o xs, .int i] = _
  simp [opIx, h]
theorem opAdd_l {o o' : Bool} {xs ys : List D} (h : shrL xs = true) (h' : shrL ys = true) (k : xs.length + ys.length ≤ sizeLine) : opAdd [.lst o xs, .lst o' ys] = some (.lst true (xs ++ ys)) := by
  unfold opAdd
  simp [h, h', k]
theorem opAdd_t {xs ys : List D} (h : shrL xs = true) (h' : shrL ys = true) (k : xs.length + ys.length ≤ sizeLine) : opAdd [.tup xs, .tup ys] = some (.tup (xs ++ ys)) := by
  unfold opAdd
  simp [h, h', k]
theorem opMul_l {o : Bool} {xs : List D} {k : Int} (h : shrL xs = true) (h0 : 0 ≤ k) (h1 : (xs.length : Int) * k ≤ 16777216) (h2 : k < 2 ^ 63) : opMul [.lst o xs, .int k] = some (.lst true (repL xs k.toNat)) := by
  unfold opMul
  simp only [seqOf_ls h]
  rw [if_pos]
  simp only [Bool.and_eq_true, decide_eq_true_eq]
  refine ⟨⟨by omega, h2⟩, ?_⟩
  rw [PySem.sizeLine_eq]
  have e : ((k.toNat : Nat) : Int) = k := Int.toNat_of_nonneg h0
  have : ((xs.length * k.toNat : Nat) : Int) ≤ 16777216 := by rw [Int.natCast_mul, e]; exact h1
  omega
@[simp] theorem repL_one (d : D) (n : Nat) : repL [d] n = List.replicate n d := by
  induction n with
  | zero => rfl
  | succ n ih => simp [repL, ih, List.replicate_succ]

@[simp] theorem opMul_l1 {o : Bool} {xs : List D} (h : shrL xs = true) (k : xs.length ≤ 16777216) : opMul [.lst o xs, .int 1] = some (.lst true xs) := by
  rw [opMul_l h (by omega) (by omega) (by decide)]
  show some (D.lst true (xs ++ [])) = _
  rw [List.append_nil]
@[simp] theorem opMul_l0 {o : Bool} {xs : List D} (h : shrL xs = true) : opMul [.lst o xs, .int 0] = some (.lst true []) := by
  rw [opMul_l h (by omega) (by omega) (by decide)]
  rfl
@[simp] theorem opAdd_nil {o o' : Bool} {xs : List D} (h : shrL xs = true) (k : xs.length ≤ 16777216) : opAdd [.lst o xs, .lst o' []] = some (.lst true xs) := by
  rw [opAdd_l h (by simp) (by rw [sizeLine_eq]; simp; omega), List.append_nil]
@[simp] theorem opAdd_nil' {o o' : Bool} {xs : List D} (h : shrL xs = true) (k : xs.length ≤ 16777216) : opAdd [.lst o' [], .lst o xs] = some (.lst true xs) := by
  rw [opAdd_l (by simp) h (by rw [sizeLine_eq]; simp; omega), List.nil_append]
@[simp] theorem opAdd_one {o o' : Bool} {d e : D} (h : shr d = true) (h' : shr e = true) : opAdd [.lst o [d], .lst o' [e]] = some (.lst true [d, e]) := by
  rw [opAdd_l (by simp [h]) (by simp [h']) (by simp [sizeLine_eq])]; rfl
/-! places -/
theorem ixN_get {n : Nat} {i : Int} (h0 : 0 ≤ i) (h1 : i < n) : ixN n i = some i.toNat := by
  unfold ixN; rw [if_pos h0, if_pos h1]
@[simp] theorem atI_map {α β : Type} (f : α → β) (xs : List α) (i : Int) : atI (xs.map f) i = (atI xs i).map f := by
  unfold atI
  rw [List.length_map]
  cases ixN xs.length i with
  | none => rfl
  | some j => simp
theorem atI_get {α : Type} {xs : List α} {i : Int} (h0 : 0 ≤ i) (h1 : i < xs.length) : atI xs i = some (xs[i.toNat]'(by omega)) := by
  unfold atI
  rw [ixN_get h0 h1]
  show xs[i.toNat]? = _
  rw [List.getElem?_eq_getElem]
theorem atI_some {α : Type} {xs : List α} {i : Int} (h0 : 0 ≤ i) (h1 : i < xs.length) : ∃ x ∈ xs, atI xs i = some x := ⟨_, List.getElem_mem _, atI_get h0 h1⟩
theorem atI_nat' {α : Type} {xs : List α} {j : Nat} (h : j < xs.length) : atI xs (j : Int) = some xs[j] := by
  rw [atI_get (by omega) (by omega)]; rfl
@[simp] theorem atI_0 {α : Type} (x : α) (xs : List α) : atI (x :: xs) 0 = some x := by rw [atI_get (by omega) (by simp <;> omega)]; rfl
@[simp] theorem atI_1 {α : Type} (x y : α) (xs : List α) : atI (x :: y :: xs) 1 = some y := by rw [atI_get (by omega) (by simp <;> omega)]; rfl
@[simp] theorem atI_2 {α : Type} (x y z : α) (xs : List α) : atI (x :: y :: z :: xs) 2 = some z := by rw [atI_get (by omega) (by simp <;> omega)]; rfl
/-- the numbers from lo on, below hi -/
def rg (lo hi : Int) : List Int := (List.range (hi - lo).toNat).map fun i => lo + (i : Nat)
theorem rgD_eq (lo hi : Int) : rgD lo hi = (rg lo hi).map .int := by
  unfold rgD rg; rw [List.map_map]; rfl
@[simp] theorem rg_len (lo hi : Int) : (rg lo hi).length = (hi - lo).toNat := by simp [rg]
@[simp] theorem mem_rg {lo hi x : Int} : x ∈ rg lo hi ↔ lo ≤ x ∧ x < hi := by
  unfold rg
  simp only [List.mem_map, List.mem_range]
  constructor
  · rintro ⟨i, h, rfl⟩; omega
  · intro h; exact ⟨(x - lo).toNat, by omega, by omega⟩
theorem rg_sorted (lo hi : Int) : (rg lo hi).Pairwise (· < ·) := by
  unfold rg
  rw [List.pairwise_map]
  exact List.pairwise_lt_range.imp fun h => by omega
theorem rg_get {lo hi : Int} {i : Nat} {x : Int} (h : (rg lo hi)[i]? = some x) : x = lo + i ∧ x < hi := by
  unfold rg at h
  rw [List.getElem?_map] at h
  obtain ⟨j, hj, rfl⟩ := Option.map_eq_some_iff.mp h
  obtain ⟨h1, h2⟩ := List.getElem?_eq_some_iff.mp hj
  simp at h1 h2
  subst h2
  exact ⟨rfl, by omega⟩
theorem rgOk_of {lo hi : Int} (h1 : -4000000 ≤ lo) (h2 : lo ≤ 4000000) (h3 : -4000000 ≤ hi) (h4 : hi ≤ 4000000) : rgOk lo hi = true := by
  unfold rgOk
  simp only [Bool.and_eq_true, decide_eq_true_eq]
  rw [PySem.sizeLine_eq]
  refine ⟨⟨⟨⟨by omega, by omega⟩, by omega⟩, by omega⟩, by omega⟩
/-- a loop over numbers -/
theorem itRg1 {j : Int} {ρ : En} (h3 : -4000000 ≤ j) (h4 : j ≤ 4000000) : rgK (.ok [.int j] ρ) = .ok ((rg 0 j).map .int) ρ := by
  rw [rgK_1, if_pos (rgOk_of (by omega) (by omega) h3 h4), rgD_eq]
theorem itRg2 {i j : Int} {ρ : En} (h1 : -4000000 ≤ i) (h2 : i ≤ 4000000) (h3 : -4000000 ≤ j) (h4 : j ≤ 4000000) : rgK (.ok [.int i, .int j] ρ) = .ok ((rg i j).map .int) ρ := by
  rw [rgK_2, if_pos (rgOk_of h1 h2 h3 h4), rgD_eq]
theorem opRgL1' {j : Int} (h3 : -4000000 ≤ j) (h4 : j ≤ 4000000) : opRgL1 [.int j] = some (.lst true ((rg 0 j).map .int)) := by
  rw [opRgL1_i (rgOk_of (by omega) (by omega) h3 h4), rgD_eq]
theorem opRgT1' {j : Int} (h3 : -4000000 ≤ j) (h4 : j ≤ 4000000) : opRgT1 [.int j] = some (.tup ((rg 0 j).map .int)) := by
  rw [opRgT1_i (rgOk_of (by omega) (by omega) h3 h4), rgD_eq]
theorem opRgT2' {i j : Int} (h1 : -4000000 ≤ i) (h2 : i ≤ 4000000) (h3 : -4000000 ≤ j) (h4 : j ≤ 4000000) : opRgT2 [.int i, .int j] = some (.tup ((rg i j).map .int)) := by
  rw [opRgT2_i (rgOk_of h1 h2 h3 h4), rgD_eq]
/-! slices -/
theorem sIx_pos {n d : Nat} {i : Int} (h : 0 ≤ i) : HT.sIx n d (some i) = min i.toNat n := by
  obtain ⟨k, rfl⟩ := Int.eq_ofNat_of_zero_le h
  exact HT.sIx_nat n d k
theorem sIx_neg {n d : Nat} {i : Int} (h : i < 0) : HT.sIx n d (some i) = (i + n).toNat := if_pos h
theorem cutD_lo {xs : List D} {i : Int} (h : 0 ≤ i) : cutD xs (some i) none = xs.drop i.toNat := by
  unfold cutD
  rw [sIx_pos h, HT.sIx_none]
  rw [List.take_of_length_le (by rw [List.length_drop]; omega)]
  by_cases q : i.toNat ≤ xs.length
  · rw [Nat.min_eq_left q]
  · rw [Nat.min_eq_right (by omega), List.drop_length, List.drop_eq_nil_of_le (by omega)]
theorem cutD_hi {xs : List D} {i : Int} (h : 0 ≤ i) : cutD xs none (some i) = xs.take i.toNat := by
  unfold cutD
  rw [sIx_pos h, HT.sIx_none, List.drop_zero, Nat.sub_zero]
  by_cases q : i.toNat ≤ xs.length
  · rw [Nat.min_eq_left q]
  · rw [Nat.min_eq_right (by omega), List.take_length, List.take_of_length_le (by omega)]
theorem cutD_hin {xs : List D} {i : Int} (h : i < 0) : cutD xs none (some i) = xs.take (xs.length - (-i).toNat) := by
  unfold cutD
  rw [sIx_neg h, HT.sIx_none, List.drop_zero, Nat.sub_zero]
  congr 1
  omega
theorem cutD_lon {xs : List D} {i : Int} (h : i < 0) : cutD xs (some i) none = xs.drop (xs.length - (-i).toNat) := by
  unfold cutD
  rw [sIx_neg h, HT.sIx_none]
  rw [List.take_of_length_le (by rw [List.length_drop]; omega)]
  congr 1
  omega
@[simp] theorem cutD_all {xs : List D} : cutD xs none none = xs := by
  unfold cutD
  rw [HT.sIx_none, HT.sIx_none, List.drop_zero, Nat.sub_zero, List.take_length]
theorem cutD_lohi {xs : List D} {i j : Int} (h : 0 ≤ i) (h2 : 0 ≤ j) : cutD xs (some i) (some j) = (xs.take j.toNat).drop i.toNat := by
  unfold cutD
  rw [sIx_pos h, sIx_pos h2, List.drop_take]
  by_cases q : i.toNat ≤ xs.length
  · rw [Nat.min_eq_left q]
    by_cases q2 : j.toNat ≤ xs.length
    · rw [Nat.min_eq_left q2]
    · rw [Nat.min_eq_right (by omega), List.take_of_length_le (by rw [List.length_drop]; omega), List.take_of_length_le (by rw [List.length_drop]; omega)]
  · rw [Nat.min_eq_right (show xs.length ≤ i.toNat by omega), List.drop_length, List.drop_eq_nil_of_le (show xs.length ≤ i.toNat by omega)]
    simp
@[simp] theorem enD_map {α : Type} (f : α → D) (k : Nat) (xs : List α) : enD k (xs.map f) = (xs.zipIdx k).map fun p => D.tup [.int (p.2 : Nat), f p.1] := by
  induction xs generalizing k with
  | nil => rfl
  | cons x xs ih => simp [enD, ih]
end Fw

/- part FwX -/
namespace Fw
open PySem L2
/-! ### dicts by whole numbers -/
section
variable {α : Type}
abbrev dI (f : α → D) (o : Bool) (m : List (Int × α)) : D := .dk o (m.map fun p => .inl p.1) (m.map fun p => f p.2)
def putA : List (Int × α) → Int → α → List (Int × α)
  | [], k, v => [(k, v)]
  | (q, x) :: m, k, v => if q = k then (q, v) :: m else (q, x) :: putA m k v
def getA : List (Int × α) → Int → Option α
  | [], _ => none
  | (q, x) :: m, k => if q = k then some x else getA m k
def keysA (m : List (Int × α)) : List Int := m.map (·.1)
@[simp] theorem keysA_nil : keysA ([] : List (Int × α)) = [] := (rfl)
@[simp] theorem keysA_cons (q : Int) (x : α) (m : List (Int × α)) : keysA ((q, x) :: m) = q :: keysA m := (rfl)
theorem mem_cons_ne {k q : Int} {l : List Int} (h : k ≠ q) : decide (k ∈ q :: l) = decide (k ∈ l) := by
  by_cases c : k ∈ l <;> simp [c, h]
theorem keysA_put (m : List (Int × α)) (k : Int) (v : α) : keysA (putA m k v) = if k ∈ keysA m then keysA m else keysA m ++ [k] := by
  induction m with
  | nil => rfl
  | cons p m ih =>
    obtain ⟨q, x⟩ := p
    unfold putA
    by_cases h : q = k
    · subst h; simp
    · have h' : k ≠ q := fun z => h z.symm
      rw [if_neg h, keysA_cons, keysA_cons, ih]
      by_cases c : k ∈ keysA m <;> simp [c, h']
theorem mem_put {m : List (Int × α)} {k : Int} {v : α} {z : Int} : z ∈ keysA (putA m k v) ↔ z = k ∨ z ∈ keysA m := by
  rw [keysA_put]
  split
  · constructor
    · exact .inr
    · rintro (rfl | h) <;> assumption
  · simp [or_comm]
theorem nodup_put {m : List (Int × α)} {k : Int} {v : α} (h : (keysA m).Nodup) : (keysA (putA m k v)).Nodup := by
  rw [keysA_put]
  split
  · exact h
  · rename_i n
    rw [List.nodup_append]
    exact ⟨h, by simp, fun a ha b hb => by simp at hb; subst hb; rintro rfl; exact n ha⟩
theorem getA_put {m : List (Int × α)} {k j : Int} {v : α} : getA (putA m k v) j = if k = j then some v else getA m j := by
  induction m with
  | nil => simp [putA, getA]
  | cons p m ih =>
    obtain ⟨q, x⟩ := p
    unfold putA
    by_cases h : q = k
    · subst h
      simp [getA]
      split <;> simp_all
    · rw [if_neg h]
      simp only [getA]
      by_cases h2 : q = j
      · subst h2
        rw [if_pos rfl, if_pos rfl, if_neg (fun z => h z.symm)]
      · rw [if_neg h2, if_neg h2, ih]
theorem getA_some {m : List (Int × α)} {k : Int} : (getA m k).isSome = decide (k ∈ keysA m) := by
  induction m with
  | nil => rfl
  | cons p m ih =>
    obtain ⟨q, x⟩ := p
    unfold getA
    by_cases h : q = k
    · subst h; simp
    · rw [if_neg h, ih]
      have h' : k ≠ q := fun z => h z.symm
      rw [keysA_cons, mem_cons_ne h']
theorem getD_map (f : α → D) (m : List (Int × α)) (k : Int) : getD (m.map fun p => .inl p.1) (m.map fun p => f p.2) (.inl k) = (getA m k).map f := by
  induction m with
  | nil => rfl
  | cons p m ih =>
    obtain ⟨q, x⟩ := p
    simp only [List.map_cons, getD, getA]
    by_cases h : q = k
    · subst h; simp
    · have h' : (Sum.inl q : Key) ≠ .inl k := fun z => h (by injection z)
      rw [if_neg h', if_neg h, ih]
theorem hasK_map (m : List (Int × α)) (k : Int) : hasK (m.map fun p => .inl p.1) (.inl k) = decide (k ∈ keysA m) := by
  unfold hasK
  rw [List.any_map]
  induction m with
  | nil => rfl
  | cons p m ih =>
    obtain ⟨q, x⟩ := p
    rw [List.any_cons, ih]
    by_cases h : q = k
    · subst h; simp
    · have h' : k ≠ q := fun z => h z.symm
      rw [keysA_cons, mem_cons_ne h']
      have h2 : (Sum.inl q : Key) ≠ .inl k := fun z => h (by injection z)
      simp [h]
theorem putKs_map (m : List (Int × α)) (k : Int) (v : α) : putKs (m.map fun p => .inl p.1) (.inl k) = (putA m k v).map fun p => (Sum.inl p.1 : Key) := by
  have e : ∀ m : List (Int × α), (m.map fun p => (Sum.inl p.1 : Key)) = (keysA m).map Sum.inl := fun m => by simp [keysA]
  rw [e (putA m k v), keysA_put]
  unfold putKs
  rw [hasK_map]
  rw [e m]
  by_cases h : k ∈ keysA m
  · simp [h]
  · simp [h]
theorem putXs_map (f : α → D) (m : List (Int × α)) (k : Int) (v : α) : putXs (m.map fun p => .inl p.1) (m.map fun p => f p.2) (.inl k) (f v) = (putA m k v).map fun p => f p.2 := by
  induction m with
  | nil => rfl
  | cons p m ih =>
    obtain ⟨q, x⟩ := p
    simp only [List.map_cons, putXs, putA]
    by_cases h : q = k
    · subst h; simp
    · have h2 : (Sum.inl q : Key) ≠ .inl k := fun z => h (by injection z)
      rw [if_neg h2, if_neg h, ih]; rfl
theorem keys_nodup {m : List (Int × α)} (h : (keysA m).Nodup) : (m.map fun p => (Sum.inl p.1 : Key)).Nodup := by
  have e : (m.map fun p => (Sum.inl p.1 : Key)) = (keysA m).map Sum.inl := by simp [keysA]
  rw [e]
  exact List.nodup_iff_pairwise_ne.mpr ((List.nodup_iff_pairwise_ne.mp h).map _ fun a b hab z => hab (by injection z))
/-- m[k] = v -/
theorem stk_int (f : α → D) {m : List (Int × α)} {k : Int} {v : α} {i : Nat} {vs : List Sv} {st : RSt} (h : (keysA m).Nodup) (hz : m.length < sizeLine) :
    stk i (f v) ⟨vs, st⟩ (m.map fun p => .inl p.1) (m.map fun p => f p.2) (some (.inl k)) = .ok .nx ⟨vs.set i (.ow (dI f true (putA m k v))), st⟩ := by
  rw [stk_some, if_pos ⟨by rw [List.length_map]; exact hz, keys_nodup h⟩, putKs_map m k v, putXs_map]
@[simp] theorem opIn_d (neg : Bool) (f : α → D) (o : Bool) (m : List (Int × α)) (k : Int) : opIn neg [.int k, .dk o (m.map fun p => .inl p.1) (m.map fun p => f p.2)] = some (.bl (if neg = true then !decide (k ∈ keysA m) else decide (k ∈ keysA m))) := by
  simp only [opIn, inD, keyD_int, Option.map_some, getD_map, Option.isSome_map, getA_some]
theorem opIxA_d {f : α → D} {o : Bool} {m : List (Int × α)} {k : Int} {v : α} (h : getA m k = some v) (hs : shr (f v) = true) : opIxA [.dk o (m.map fun p => .inl p.1) (m.map fun p => f p.2), .int k] = some (f v) := by
  simp only [opIxA, keyD_int, getD_map, h, Option.map_some, hs, if_true]
theorem getA_mem {m : List (Int × α)} {k : Int} (h : k ∈ keysA m) : ∃ v, getA m k = some v := by
  have := getA_some (m := m) (k := k)
  rw [decide_eq_true h] at this
  exact Option.isSome_iff_exists.mp this
/-- distinct whole numbers between a and b -/
theorem nodup_len {a b : Int} {xs : List Int} (h : xs.Nodup) (k : ∀ x ∈ xs, a ≤ x ∧ x < b) : xs.length ≤ (b - a).toNat := by
  have h1 := (sortI_perm xs).length_eq
  have h2 : (sortI xs).Pairwise (· < ·) := by
    have s := sortI_sorted xs
    have n : (sortI xs).Nodup := (sortI_perm xs).nodup_iff.mpr h
    exact (s.and (List.nodup_iff_pairwise_ne.mp n)).imp fun ⟨p, q⟩ => by omega
  rw [← h1]
  exact sorted_len h2 fun x hx => k x ((sortI_perm xs).mem_iff.mp hx)
theorem keys_len {m : List (Int × α)} : (keysA m).length = m.length := by simp [keysA]
end
theorem atI_getD {α : Type} {xs : List α} {i : Int} (d : α) (h0 : 0 ≤ i) (h1 : i < xs.length) : atI xs i = some (xs.getD i.toNat d) := by
  rw [atI_get h0 h1, List.getD_eq_getElem?_getD, List.getElem?_eq_getElem (by omega)]; rfl
theorem getD_mem {α : Type} {xs : List α} {i : Int} {d : α} (h0 : 0 ≤ i) (h1 : i < xs.length) : xs.getD i.toNat d ∈ xs := by
  rw [List.getD_eq_getElem?_getD, List.getElem?_eq_getElem (by omega)]; exact List.getElem_mem _
/-! ### == of lists and tuples of whole numbers -/
theorem pyOfL_ints : ∀ xs : List Int, pyOfL (xs.map .int) = some (xs.map PyData.int)
  | [] => by simp [pyOfL]
  | x :: xs => by simp [pyOfL, pyOf, pyOfL_ints xs]
theorem eqvAll_ints : ∀ xs ys : List Int, PyData.eqvAll (xs.map PyData.int) (ys.map PyData.int) = decide (xs = ys)
  | [], [] => by simp [PyData.eqvAll]
  | [], y :: ys => by simp [PyData.eqvAll]
  | x :: xs, [] => by simp [PyData.eqvAll]
  | x :: xs, y :: ys => by
    simp only [List.map_cons, PyData.eqvAll, PyData.eqv, eqvAll_ints xs ys, List.cons.injEq]
    by_cases h : x = y <;> by_cases h2 : xs = ys <;> simp [h, h2]
theorem shaped_intsT (ns : List Int) : SeqAt.shaped (.tuple (ns.map PyData.int)) = true := by
  unfold SeqAt.shaped
  rw [PyData.canLay0, canLay_ints, PyData.depth, depthAll_ints]
  decide
theorem eqvD_l (o o' : Bool) (xs ys : List Int) : eqvD (.lst o (xs.map .int)) (.lst o' (ys.map .int)) = some (decide (xs = ys)) := by
  have e : eqS (.lst o (xs.map D.int)) (.lst o' (ys.map D.int)) = none := by simp [eqS]
  unfold eqvD
  rw [e]
  simp only [pyOf, pyOfL_ints, Option.map_some, shaped_ints, and_self, if_true]
  rw [PyData.eqv, eqvAll_ints]
theorem eqvD_t (xs ys : List Int) : eqvD (.tup (xs.map .int)) (.tup (ys.map .int)) = some (decide (xs = ys)) := by
  have e : eqS (.tup (xs.map D.int)) (.tup (ys.map D.int)) = none := by simp [eqS]
  unfold eqvD
  rw [e]
  simp only [pyOf, pyOfL_ints, Option.map_some, shaped_intsT, and_self, if_true]
  rw [PyData.eqv, eqvAll_ints]
@[simp] theorem opEq_l (o o' : Bool) (xs ys : List Int) : opEq [.lst o (xs.map .int), .lst o' (ys.map .int)] = some (.bl (decide (xs = ys))) := by
  simp only [opEq, eqvD_l, Option.map_some]
@[simp] theorem opEq_l0 (o o' : Bool) (xs : List Int) : opEq [.lst o (xs.map .int), .lst o' []] = some (.bl (decide (xs = []))) := opEq_l o o' xs []
@[simp] theorem opNe_l (o o' : Bool) (xs ys : List Int) : opNe [.lst o (xs.map .int), .lst o' (ys.map .int)] = some (.bl (!decide (xs = ys))) := by
  simp only [opNe, eqvD_l, Option.map_some]
@[simp] theorem opNe_l0 (o o' : Bool) (xs : List Int) : opNe [.lst o (xs.map .int), .lst o' []] = some (.bl (!decide (xs = []))) := opNe_l o o' xs []
@[simp] theorem opEq_t (xs ys : List Int) : opEq [.tup (xs.map .int), .tup (ys.map .int)] = some (.bl (decide (xs = ys))) := by
  simp only [opEq, eqvD_t, Option.map_some]
@[simp] theorem opEq_t0 (xs : List Int) : opEq [.tup (xs.map .int), .tup []] = some (.bl (decide (xs = []))) := opEq_t xs []
@[simp] theorem opNe_t (xs ys : List Int) : opNe [.tup (xs.map .int), .tup (ys.map .int)] = some (.bl (!decide (xs = ys))) := by
  simp only [opNe, eqvD_t, Option.map_some]
/-! ### == of the same data -/
/-- plain data, at most so deep -/
def pq : Nat → D → Bool
  | _, .int _ => true
  | _, .bl _ => true
  | _, .non => true
  | _, .str x => PyData.strOk x
  | k + 1, .lst _ xs => xs.all (pq k)
  | k + 1, .tup xs => xs.all (pq k)
  | _, _ => false
@[simp] theorem pq_int (k : Nat) (i : Int) : pq k (.int i) = true := by cases k <;> rfl
@[simp] theorem pq_non (k : Nat) : pq k .non = true := by cases k <;> rfl
@[simp] theorem pq_bl (k : Nat) (b : Bool) : pq k (.bl b) = true := by cases k <;> rfl
@[simp] theorem pq_str (k : Nat) (i : Str) : pq k (.str i) = PyData.strOk i := by cases k <;> rfl
@[simp] theorem pq_lst (k : Nat) (o : Bool) (xs : List D) : pq (k + 1) (.lst o xs) = xs.all (pq k) := by rfl
@[simp] theorem pq_tup (k : Nat) (xs : List D) : pq (k + 1) (.tup xs) = xs.all (pq k) := by rfl
theorem pq_py : ∀ (k : Nat) (d : D), pq k d = true → ∃ y, pyOf d = some y ∧ y.canLay0 = true ∧ y.depth ≤ k ∧ PyData.eqv y y = true
  | k, .int i, _ => ⟨.int i, by simp [pyOf], by simp [PyData.canLay0], by simp [PyData.depth], by simp [PyData.eqv]⟩
  | k, .bl i, _ => ⟨.bool i, by simp [pyOf], by simp [PyData.canLay0], by simp [PyData.depth], by simp [PyData.eqv]⟩
  | k, .non, _ => ⟨.none, by simp [pyOf], by simp [PyData.canLay0], by simp [PyData.depth], by simp [PyData.eqv]⟩
  | k, .str x, h => ⟨.str x, by simp [pyOf], by simpa [PyData.canLay0] using h, by simp [PyData.depth], by simp [PyData.eqv]⟩
  | 0, .lst o xs, h => by simp [pq] at h
  | 0, .tup xs, h => by simp [pq] at h
  | k, .dk o ks xs, h => by cases k <;> simp [pq] at h
  | k, .dt o ks xs, h => by cases k <;> simp [pq] at h
  | k, .rs, h => by cases k <;> simp [pq] at h
  | k, .ob o C fs xs, h => by cases k <;> simp [pq] at h
  | k, .ev C fs xs, h => by cases k <;> simp [pq] at h
  | k + 1, .lst o xs, h => by
    rw [pq_lst] at h
    obtain ⟨ys, h1, h2, h3, h4⟩ := pqs k xs (fun d hd => pq_py k d (List.all_eq_true.mp h d hd))
    exact ⟨.list ys, by simp [pyOf, h1], by simpa [PyData.canLay0] using h2, by simpa [PyData.depth] using h3, by simpa [PyData.eqv] using h4⟩
  | k + 1, .tup xs, h => by
    rw [pq_tup] at h
    obtain ⟨ys, h1, h2, h3, h4⟩ := pqs k xs (fun d hd => pq_py k d (List.all_eq_true.mp h d hd))
    exact ⟨.tuple ys, by simp [pyOf, h1], by simpa [PyData.canLay0] using h2, by simpa [PyData.depth] using h3, by simpa [PyData.eqv] using h4⟩
where
  pqs (k : Nat) : ∀ (xs : List D), (∀ d ∈ xs, ∃ y, pyOf d = some y ∧ y.canLay0 = true ∧ y.depth ≤ k ∧ PyData.eqv y y = true) → ∃ ys, pyOfL xs = some ys ∧ PyData.canLayAll0 ys = true ∧ PyData.depthAll ys ≤ k ∧ PyData.eqvAll ys ys = true
    | [], _ => ⟨[], by simp [pyOfL], by simp [PyData.canLayAll0], by simp [PyData.depthAll], by simp [PyData.eqvAll]⟩
    | d :: xs, h => by
      obtain ⟨y, h1, h2, h3, h4⟩ := h d List.mem_cons_self
      obtain ⟨ys, g1, g2, g3, g4⟩ := pqs k xs fun e he => h e (List.mem_cons_of_mem _ he)
      exact ⟨y :: ys, by simp [pyOfL, h1, g1], by simp [PyData.canLayAll0, h2, g2], by simp only [PyData.depthAll]; omega, by simp [PyData.eqvAll, h4, g4]⟩
theorem eqvD_same {k : Nat} {o o' : Bool} {xs : List D} (h : xs.all (pq k) = true) (hk : k < 64) : eqvD (.lst o xs) (.lst o' xs) = some true := by
  obtain ⟨y, h1, h2, h3, h4⟩ := pq_py (k + 1) (.lst o xs) (by rw [pq_lst]; exact h)
  have h1' : pyOf (.lst o' xs) = some y := by rw [← h1]; simp [pyOf]
  have e : eqS (.lst o xs) (.lst o' xs) = none := by simp [eqS]
  have hs : SeqAt.shaped y = true := by
    unfold SeqAt.shaped
    rw [h2, Bool.true_and, decide_eq_true_eq]; omega
  unfold eqvD
  rw [e]
  simp only [h1, h1', hs, and_self, if_true, h4]
theorem eqvD_sameT {k : Nat} {xs : List D} (h : xs.all (pq k) = true) (hk : k < 64) : eqvD (.tup xs) (.tup xs) = some true := by
  obtain ⟨y, h1, h2, h3, h4⟩ := pq_py (k + 1) (.tup xs) (by rw [pq_tup]; exact h)
  have e : eqS (.tup xs) (.tup xs) = none := by simp [eqS]
  have hs : SeqAt.shaped y = true := by
    unfold SeqAt.shaped
    rw [h2, Bool.true_and, decide_eq_true_eq]; omega
  unfold eqvD
  rw [e]
  simp only [h1, hs, and_self, if_true, h4]
theorem opEq_same {k : Nat} {o o' : Bool} {xs : List D} (h : xs.all (pq k) = true) (hk : k < 64) : opEq [.lst o xs, .lst o' xs] = some (.bl true) := by
  simp only [opEq, eqvD_same h hk, Option.map_some]
theorem opNe_same {k : Nat} {o o' : Bool} {xs : List D} (h : xs.all (pq k) = true) (hk : k < 64) : opNe [.lst o xs, .lst o' xs] = some (.bl false) := by
  simp only [opNe, eqvD_same h hk, Option.map_some, Bool.not_true]
theorem opEq_sameT {k : Nat} {xs : List D} (h : xs.all (pq k) = true) (hk : k < 64) : opEq [.tup xs, .tup xs] = some (.bl true) := by
  simp only [opEq, eqvD_sameT h hk, Option.map_some]
theorem opNe_sameT {k : Nat} {xs : List D} (h : xs.all (pq k) = true) (hk : k < 64) : opNe [.tup xs, .tup xs] = some (.bl false) := by
  simp only [opNe, eqvD_sameT h hk, Option.map_some, Bool.not_true]
theorem opListA_dI {α : Type} {f : α → D} {o : Bool} {m : List (Int × α)} (h : m.length ≤ 16777216) : opListA [dI f o m] = some (.lst true ((keysA m).map .int)) := by
  show (if (m.map fun p => (Sum.inl p.1 : Key)).length ≤ sizeLine then some (D.lst true ((m.map fun p => (Sum.inl p.1 : Key)).map keyE)) else none) = _
  rw [if_pos (by rw [List.length_map, PySem.sizeLine_eq]; exact h)]
  simp [keysA, Function.comp_def, keyE]
@[simp] theorem opListA_l (o : Bool) {xs : List D} (h : shrL xs = true) : opListA [.lst o xs] = some (.lst true xs) := opList_l o h
@[simp] theorem opListA_t {xs : List D} (h : shrL xs = true) : opListA [.tup xs] = some (.lst true xs) := opList_t h
theorem view_keys {α : Type} {f : α → D} {o : Bool} {m : List (Int × α)} (h : m.length ≤ 16777216) : viewD .keys (dI f o m) = some ((keysA m).map .int) := by
  show (if (m.map fun p => (Sum.inl p.1 : Key)).length ≤ sizeLine then some ((m.map fun p => (Sum.inl p.1 : Key)).map keyE) else none) = _
  rw [if_pos (by rw [List.length_map, PySem.sizeLine_eq]; exact h)]
  simp [keysA, Function.comp_def, keyE]
theorem view_vals {α : Type} {f : α → D} {o : Bool} {m : List (Int × α)} (h : m.length ≤ 16777216) (hs : ∀ x, shr (f x) = true) : viewD .vals (dI f o m) = some (m.map fun p => f p.2) := by
  show (if (m.map fun p => f p.2).length ≤ sizeLine ∧ shrL (m.map fun p => f p.2) = true then some (m.map fun p => f p.2) else none) = _
  rw [if_pos ⟨by rw [List.length_map, PySem.sizeLine_eq]; exact h, shrL_map' (by simp [hs])⟩]
theorem zip_dI {α : Type} (f : α → D) : ∀ m : List (Int × α), (((m.map fun p => (Sum.inl p.1 : Key)).zip (m.map fun p => f p.2)).map fun p => D.tup [keyE p.1, p.2]) = m.map fun p => .tup [.int p.1, f p.2]
  | [] => rfl
  | p :: m => by
    rw [List.map_cons, List.map_cons, List.zip_cons_cons, List.map_cons, zip_dI f m]; rfl
theorem view_items {α : Type} {f : α → D} {o : Bool} {m : List (Int × α)} (h : m.length ≤ 16777216) (hs : ∀ x, shr (f x) = true) : viewD .items (dI f o m) = some (m.map fun p => .tup [.int p.1, f p.2]) := by
  show (if (m.map fun p => (Sum.inl p.1 : Key)).length ≤ sizeLine ∧ shrL (m.map fun p => f p.2) = true then some (((m.map fun p => (Sum.inl p.1 : Key)).zip (m.map fun p => f p.2)).map fun p => D.tup [keyE p.1, p.2]) else none) = _
  rw [if_pos ⟨by rw [List.length_map, PySem.sizeLine_eq]; exact h, shrL_map' (by simp [hs])⟩, zip_dI]
end Fw

/- part FwE -/
namespace Fw
open PySem PySem.Spec PyProof.Rows L2
/-! ### targets in targets -/
inductive Tg where
  | nm (i : Nat)
  | tp (ts : List Tg)
mutual
def setX : Tg → List Sv → D → Option (List Sv)
  | .nm i, vs, d => some (vs.set i (.sh d))
  | .tp ts, vs, d => match d with
    | .tup ds => setXs ts vs ds
    | _ => none
def setXs : List Tg → List Sv → List D → Option (List Sv)
  | [], vs, ds => match ds with
    | [] => some vs
    | _ => none
  | t :: ts, vs, ds => match ds with
    | d :: ds => (setX t vs d).bind fun vs' => setXs ts vs' ds
    | [] => none
end
def tgX (ts : List Tg) : D → En → Option En := fun d ρ => match fz d with
  | .tup ds => (setXs ts ρ.vs ds).map fun vs => { ρ with vs := vs }
  | _ => none
mutual
def gX (K : PySem.W.Frag) : Tg → TG
  | .nm i => gName i
  | .tp ts => gTup K ts.length (gXs K ts)
def gXs (K : PySem.W.Frag) : List Tg → TGs
  | [] => gNil
  | t :: ts => gCons (gX K t) (gXs K ts)
end
mutual
def tgF (B : Bs) : Tg → Bool
  | .nm i => B.free [i]
  | .tp ts => tgFs B ts
def tgFs (B : Bs) : List Tg → Bool
  | [] => true
  | t :: ts => tgF B t && tgFs B ts
end
theorem setXs_len : ∀ {ts : List Tg} {vs : List Sv} {ds : List D} {svs : List Sv}, setXs ts vs ds = some svs → ds.length = ts.length
  | [], vs, ds, svs, e => by
    cases ds with
    | nil => rfl
    | cons d ds => simp [setXs] at e
  | t :: ts, vs, ds, svs, e => by
    cases ds with
    | nil => simp [setXs] at e
    | cons d ds =>
      simp only [setXs] at e
      obtain ⟨vs', e1, e2⟩ := Option.bind_eq_some_iff.mp e
      simp [setXs_len e2]
section
variable {X : Cx} {B : Bs} {pos : Pos}
theorem R.setS {T : Tm} {ρ : En} {σ : L2.St} {H : Hp} {F : List Addr} {d : D} {v : V} (i : Nat) (hf : B.free [i] = true) (r : R B T ρ σ H F) (h1 : Rp B.S H (hid (B.M ++ F) H) d v []) : R B T { ρ with vs := ρ.vs.set i (.sh d) } (σ.set i (some v)) H F := by
  obtain ⟨fp, p⟩ := r.pt
  refine { r with len := by simp [r.len], pin := fun j a q => (List.getElem?_set_ne (by rintro rfl; rw [Bs.free1 hf] at q; cases q)).trans (r.pin j a q), pt := ⟨fp, { p with sl := fun j s q => ?_ }⟩ }
  rcases getElem?_set' q with ⟨rfl, rfl⟩ | ⟨ne, q⟩
  · refine ⟨v, ?_, h1⟩
    have hi : i < σ.length := by
      rw [r.len]
      have := (List.getElem?_eq_some_iff.mp q).1
      simpa using this
    rw [List.getElem?_set_self hi]
  · rw [List.getElem?_set_ne ne]; exact p.sl j s q
mutual
theorem gX_run {T : Tm} {H : Hp} {F : List Addr} {K : PySem.W.Frag} : ∀ (t : Tg) {d : D} {v : V} {ρ : En} {σ : L2.St} {svs : List Sv} {Q : L2.St → Hp → Prop}, tgF B t = true → R B T ρ σ H F → Rp B.S H (hid (B.M ++ F) H) d v [] →
    setX t ρ.vs d = some svs → (∀ σ', R B T { ρ with vs := svs } σ' H F → Q σ' H) → gX K t v σ H Q
  | .nm i, d, v, ρ, σ, svs, Q, hf, r, rd, e, q => by
    simp only [setX] at e
    cases e
    rw [tgF] at hf
    rw [gX]
    exact q _ (r.setS i hf rd)
  | .tp ts, d, v, ρ, σ, svs, Q, hf, r, rd, e, q => by
    cases d with
    | tup ds =>
      simp only [setX] at e
      rw [gX]
      cases rd with
      | tup h rl =>
        exact ⟨_, _, rfl, SqT.of (hid_some h).2, by rw [← rl.length, setXs_len e], gXs_run ts (by rw [tgF] at hf; exact hf) r rl e q⟩
    | _ => simp [setX] at e
theorem gXs_run {T : Tm} {H : Hp} {F : List Addr} {K : PySem.W.Frag} : ∀ (ts : List Tg) {ds : List D} {vs : List V} {ρ : En} {σ : L2.St} {svs : List Sv} {Q : L2.St → Hp → Prop}, tgFs B ts = true → R B T ρ σ H F → RpL B.S H (hid (B.M ++ F) H) ds vs [] →
    setXs ts ρ.vs ds = some svs → (∀ σ', R B T { ρ with vs := svs } σ' H F → Q σ' H) → gXs K ts vs σ H Q
  | [], ds, vs, ρ, σ, svs, Q, hf, r, rl, e, q => by
    cases ds with
    | nil =>
      cases rl
      simp only [setXs] at e
      cases e
      rw [gXs]
      exact ⟨rfl, q _ r⟩
    | cons d ds => simp [setXs] at e
  | t :: ts, ds, vs, ρ, σ, svs, Q, hf, r, rl, e, q => by
    cases ds with
    | nil => simp [setXs] at e
    | cons d ds =>
      cases vs with
      | nil => have := rl.length; simp at this
      | cons v vs =>
        obtain ⟨h1, h2⟩ := rl.cons_nil
        simp only [setXs] at e
        obtain ⟨vs', e1, e2⟩ := Option.bind_eq_some_iff.mp e
        rw [gXs]
        rw [tgFs, Bool.and_eq_true] at hf
        exact ⟨v, vs, rfl, gX_run t hf.1 r h1 e1 fun σ' r' => gXs_run ts (ρ := { ρ with vs := vs' }) hf.2 r' h2 e2 q⟩
end
theorem xs_nil {K : PySem.W.Frag} : PGs X [] (gXs K []) := by rw [gXs]; exact pgs_nil
theorem xs_cons {K : PySem.W.Frag} {e : Expr} {es : List Expr} {t : Tg} {ts : List Tg} (h1 : PG X e (gX K t)) (h2 : PGs X es (gXs K ts)) (hs : (assignEach (e :: es) X.env).map (·.2) = assign e X.env :: (assignEach es X.env).map (·.2) := by rfl) : PGs X (e :: es) (gXs K (t :: ts)) := by
  rw [gXs]; exact pgs_cons h1 h2 hs
theorem x_nm {K : PySem.W.Frag} {i : Nat} {x : Str} (hN : X.N.Nodup) (hi : X.N[i]? = some x) (hx : Loc X.env.scope x) (hf : X.fn x = true ∨ X.env.scope.names.lookup x = some .local := by first | exact .inl rfl | exact .inr rfl | assumption) : PG X (.Name x pos) (gX K (.nm i)) := by
  rw [gX]; exact pg_name hN hi hx hf
theorem x_tp {es : List Expr} {ts : List Tg} {k : Nat} (hc : X.calm = true) (h : PGs X es (gXs X.K ts)) (hl : es.length = ts.length := by rfl) (hn : (assignEach es X.env).length = es.length := by rfl) (hst : (assignEach es X.env).findIdx? (·.1) = none := by rfl) : PG X (.Tuple es k pos) (gX X.K (.tp ts)) := by
  rw [gX, ← hl]; exact pg_tup hc h hn hst
theorem eg_X {es : List Expr} {ts : List Tg} {k : Nat} (hc : X.calm = true) (h : PGs X es (gXs X.K ts)) (hl : es.length = ts.length := by rfl) (hn : (assignEach es X.env).length = es.length := by rfl) (hst : (assignEach es X.env).findIdx? (·.1) = none := by rfl) (hme : tgFs B ts = true := by rfl) : PG X (.Tuple es k pos) (cG B (tgX ts)) :=
  (pg_tup hc h hn hst).imp fun v σ H Q ⟨T, ρ, F, d, ρ', r, e, q⟩ => by
    obtain ⟨F', r1, rd⟩ := freezeTmp r
    unfold tgX at e
    split at e
    · rename_i ds ed
      rw [ed] at rd
      cases rd with
      | @tup a vs _ _ h rl =>
        obtain ⟨svs, e1, e2⟩ := Option.map_eq_some_iff.mp e
        subst e2
        exact ⟨a, vs, rfl, SqT.of (hid_some h).2, by rw [← rl.length, setXs_len e1, hl], gXs_run ts hme r1 rl e1 fun σ' r' => q σ' H F' r'⟩
    · cases e
/-! ### raise, where it never comes to it -/
def noS : En → Out Fl := fun _ => .no
theorem es_never {st : Stmt} : PS X st (cS B noS) := ps_never.imp fun D' σ H ⟨T, ρ, F, r, q⟩ => q
end
section
variable {X : Cx} {B : Bs} {e : Expr} {f : En → Out D}
/-! ### d.pop(k), a plain value -/
def scalD : D → Option V
  | .int i => some (.int i)
  | .bl b => some (.bl b)
  | .str s => some (.str s)
  | .non => some .non
  | _ => none
theorem scalD_rp {S : Gs} {H Hs : Hp} {d : D} {v w : V} {G : List Addr} (r : Rp S H Hs d v G) (e : scalD d = some w) : v = w := by
  cases r <;> first | (cases e; rfl) | (cases e)
theorem rp_scalD {S : Gs} {H Hs : Hp} {d : D} {w : V} (e : scalD d = some w) : Rp S H Hs d w [] := by
  cases d <;> first | (cases e; constructor) | (cases e)
def dropXs : List Key → List D → Key → List D
  | k :: ks, x :: xs, q => if k = q then dropXs ks xs q else x :: dropXs ks xs q
  | _, _, _ => []
def dropKs (ks : List Key) (q : Key) : List Key := ks.filter fun k => decide (k ≠ q)
theorem drop_rp {S : Gs} {H Hs : Hp} {q : Key} : ∀ {kvs : List (Key × V)} {ds : List D} {F : List Addr}, RpL S H Hs ds (kvs.map (·.2)) F → F.Nodup → ∃ F', RpL S H Hs (dropXs (kvs.map (·.1)) ds q) ((L2.dropK kvs q).map (·.2)) F' ∧ (∀ x ∈ F', x ∈ F) ∧ F'.Nodup
  | [], ds, F, r, n => by
    cases r
    exact ⟨[], .nil, fun _ z => (nomatch z), .nil⟩
  | (k, v) :: kvs, ds, F, r, n => by
    rw [List.map_cons] at r
    cases r with
    | @cons d _ ds _ F1 G1 h r =>
      obtain ⟨n1, n2, n3⟩ := List.nodup_append.mp n
      obtain ⟨F', r', sub, nd⟩ := drop_rp (q := q) r n2
      by_cases c : k = q
      · refine ⟨F', ?_, fun x hx => List.mem_append_right _ (sub x hx), nd⟩
        simpa [dropXs, L2.dropK, c] using r'
      · refine ⟨F1 ++ F', ?_, fun x hx => ?_, List.nodup_append.mpr ⟨n1, nd, fun x hx y hy => n3 x hx y (sub y hy)⟩⟩
        · have := RpL.cons h r'
          simpa [dropXs, L2.dropK, c] using this
        · rcases List.mem_append.mp hx with hx | hx
          · exact List.mem_append_left _ hx
          · exact List.mem_append_right _ (sub x hx)
theorem dropK_keys (kvs : List (Key × V)) (q : Key) : (L2.dropK kvs q).map (·.1) = dropKs (kvs.map (·.1)) q := by
  unfold L2.dropK dropKs
  rw [List.filter_map]
  rfl
def evDPop (i : Nat) (f : En → Out D) : En → Out D := fun ρ => match ρ.vs[i]? with
  | some (.ow (.dk true _ _)) => (f ρ).bind fun k ρ1 => match ρ1.vs[i]? with
    | some (.ow (.dk true ks xs)) => match keyD k with
      | some q => match getD ks xs q with
        | some y => if (scalD y).isSome = true then .ok y { ρ1 with vs := ρ1.vs.set i (.ow (.dk true (dropKs ks q) (dropXs ks xs q))) } else .no
        | none => .no
      | none => .no
    | _ => .no
  | _ => .no
theorem own_dk {T : Tm} {ρ : En} {σ : L2.St} {H : Hp} {F : List Addr} {i : Nat} {ks : List Key} {ds : List D} (r : R B T ρ σ H F) (e : ρ.vs[i]? = some (.ow (.dk true ks ds))) : ∃ a kvs, σ[i]? = some (some (.ref a)) ∧ H a = some (.dK kvs) := by
  obtain ⟨fp, p⟩ := r.pt
  obtain ⟨v', ev', r⟩ := (show RpV _ _ _ (.ow (.dk true ks ds)) _ _ from p.sl i _ e)
  generalize fp (.inr i) = G0 at r
  cases r with
  | dkO h r => exact ⟨_, _, ev', h⟩
theorem ev_dpop {i : Nat} (h : PE X e (tDPop1 (tVar i) (cE B f))) : PE X e (cE B (evDPop i f)) := h.imp fun σ H Q ⟨T, ρ, F, r, q⟩ => by
  unfold evDPop at q
  split at q
  · rename_i ks0 xs0 e0
    obtain ⟨a, kvs0, ev, ha⟩ := own_dk r e0
    refine ⟨_, ev, a, rfl, .inl ⟨kvs0, .inl ha⟩, T, ρ, F, r, Out.wp_mono (Out.wp_bind q) (fun k ρ1 q v H1 F1 r1 => ?_) fun _ _ z => z⟩
    split at q
    · rename_i ks xs e1
      split at q
      · rename_i q0 ek
        split at q
        · rename_i y ey
          split at q
          · rename_i hs
            obtain ⟨w, hw⟩ := Option.isSome_iff_exists.mp hs
            obtain ⟨kvs, ha1, hk, hl, step⟩ := r1.mutD e1 ev
            obtain ⟨_, rk⟩ := top_rp r1
            have hkey := keyD_rp rk.1 ek
            obtain ⟨a2, kvs2, G2, ev2, ha2, hk2, rl2⟩ := slot_dk r1 (show ρ1.vs[i]?.bind Sv.get? = some (.dk true ks xs) by rw [e1]; rfl)
            rw [ev] at ev2; cases ev2
            have hsame : kvs2 = kvs := by
              rcases ha2 with h | ⟨o, h⟩ <;> rw [ha1] at h <;> cases h
              rfl
            subst hsame
            have gg := getD_rp (q := q0) rl2
            rw [← hk2, ey] at gg
            obtain ⟨u, G3, g1, g2, _⟩ := gg
            have hu := scalD_rp g2 hw
            subst hu
            refine ⟨kvs2, q0, u, ha1, hkey, g1, ?_⟩
            have r2 := step (dropXs ks xs q0) (L2.dropK kvs2 q0) (fun {Hs F G} hs r1 r2 n1 n2 dj => by
              obtain ⟨F', r', sub, nd⟩ := drop_rp (q := q0) r1 n1
              rw [hk] at r'
              exact ⟨F', r', fun x hx => .inl (sub x hx), nd⟩)
            rw [dropK_keys, hk] at r2
            exact q u _ F1 (r2.push (rp_scalD hw))
          · exact q.elim
        · exact q.elim
      · exact q.elim
    · exact q.elim
  · exact q.elim
end
/-! ### len of a dict -/
section
variable {X : Cx} {B : Bs}
def rLenK : List V → Hp → VK → Prop := fun vs H Q => ∃ (a : Addr) (kvs : List (Key × V)), vs = [.ref a] ∧ Rd H a (.dK kvs) ∧ Q (.int kvs.length) H
theorem cr_lenK : CallR X (.builtin "len") rLenK := by
  intro pins s σ H vs us Q I r ⟨a, kvs, ev, ha, q⟩
  subst ev
  rw [Vals.ref1 r]
  exact d_len I ha fun t s' I' => ⟨.int kvs.length, H, I', ⟨t, rfl⟩, q⟩
def opLenD : List D → Option D
  | [.dk _ ks _] => some (.int ks.length)
  | _ => none
theorem opLenD_S : OpS B rLenK opLenD := by
  intro T ts ρ σ H F ps ds vs Q d h o e q
  unfold opLenD at e
  split at e
  · cases e
    obtain ⟨v1, G1, rfl, r1⟩ := o.one h
    obtain ⟨a, kvs, G', rfl, ha, ek, rl, _⟩ := dk_rp hid_sub r1.1
    refine ⟨a, kvs, rfl, ha, ?_⟩
    rw [ek, List.length_map] at q
    exact q _ _ _ (h.drop.push (.int _))
  · cases e
end
@[simp] theorem opLenD_d {α : Type} (f : α → D) (o : Bool) (m : List (Int × α)) : opLenD [.dk o (m.map fun p => .inl p.1) (m.map fun p => f p.2)] = some (.int m.length) := by
  simp [opLenD]
/-! ### equations -/
def tgXK (ts : List Tg) (ρ : En) : D → Option En
  | .tup ds => (setXs ts ρ.vs ds).map fun vs => { ρ with vs := vs }
  | _ => none
@[simp] theorem tgX_eq (ts : List Tg) (d : D) (ρ : En) : tgX ts d ρ = tgXK ts ρ (fz d) := by
  rw [tgX, tgXK.eq_def] <;> rfl
@[simp] theorem tgXK_tup (ts : List Tg) (vs : List Sv) (st : RSt) (ds : List D) : tgXK ts ⟨vs, st⟩ (.tup ds) = (setXs ts vs ds).map fun vs => ⟨vs, st⟩ := rfl
@[simp] theorem setX_nm (i : Nat) (vs : List Sv) (d : D) : setX (.nm i) vs d = some (vs.set i (.sh d)) := by rw [setX]
@[simp] theorem setX_tp (ts : List Tg) (vs : List Sv) (ds : List D) : setX (.tp ts) vs (.tup ds) = setXs ts vs ds := by rw [setX]
@[simp] theorem setXs_nil (vs : List Sv) : setXs [] vs [] = some vs := by rw [setXs]
@[simp] theorem setXs_cons (t : Tg) (ts : List Tg) (vs : List Sv) (d : D) (ds : List D) : setXs (t :: ts) vs (d :: ds) = (setX t vs d).bind fun vs' => setXs ts vs' ds := by rw [setXs]
def dpK (i : Nat) (f : En → Out D) (ρ : En) : Option Sv → Out D
  | some (.ow (.dk true _ _)) => (f ρ).bind fun k ρ1 => match ρ1.vs[i]? with
    | some (.ow (.dk true ks xs)) => match keyD k with
      | some q => match getD ks xs q with
        | some y => if (scalD y).isSome = true then .ok y { ρ1 with vs := ρ1.vs.set i (.ow (.dk true (dropKs ks q) (dropXs ks xs q))) } else .no
        | none => .no
      | none => .no
    | _ => .no
  | _ => .no
def dpK2 (i : Nat) (k : D) (ρ1 : En) : Option Sv → Out D
  | some (.ow (.dk true ks xs)) => match keyD k with
      | some q => match getD ks xs q with
        | some y => if (scalD y).isSome = true then .ok y { ρ1 with vs := ρ1.vs.set i (.ow (.dk true (dropKs ks q) (dropXs ks xs q))) } else .no
        | none => .no
      | none => .no
  | _ => .no
def dpK1 (i : Nat) : Out D → Out D
  | .ok k ρ1 => dpK2 i k ρ1 ρ1.vs[i]?
  | .ex x ρ => .ex x ρ
  | .no => .no
@[simp] theorem evDPop_eq (i : Nat) (f : En → Out D) (vs : List Sv) (st : RSt) : evDPop i f ⟨vs, st⟩ = dpK i f ⟨vs, st⟩ vs[i]? := by
  rw [evDPop]; dsimp only
  rcases vs[i]? with _ | (_ | d | d)
  · rfl
  · rfl
  · rfl
  · rcases d with _ | b | i | x | ⟨o, xs⟩ | xs | ⟨o, ks, xs⟩ | ⟨o, ks, xs⟩ | _ | ⟨o, C, fs, xs⟩ | ⟨C, fs, xs⟩ <;> first | rfl | (cases o <;> rfl)
@[simp] theorem dpK_ok (i : Nat) (f : En → Out D) (ρ : En) (ks : List Key) (xs : List D) : dpK i f ρ (some (.ow (.dk true ks xs))) = dpK1 i (f ρ) := by
  rw [dpK, dpK1.eq_def]
  cases f ρ with
  | ok k ρ1 =>
    simp only [Out.bind]
    rcases ρ1.vs[i]? with _ | (_ | d | d)
    · rfl
    · rfl
    · rfl
    · rcases d with _ | b | i | x | ⟨o, xs⟩ | xs | ⟨o, ks, xs⟩ | ⟨o, ks, xs⟩ | _ | ⟨o, C, fs, xs⟩ | ⟨C, fs, xs⟩ <;> first | rfl | (cases o <;> rfl)
  | _ => rfl
@[simp] theorem dpK1_ok (i : Nat) (k : D) (vs : List Sv) (st : RSt) : dpK1 i (.ok k ⟨vs, st⟩) = dpK2 i k ⟨vs, st⟩ vs[i]? := rfl
section
variable {α : Type}
def dropA (m : List (Int × α)) (k : Int) : List (Int × α) := m.filter fun p => decide (p.1 ≠ k)
theorem keys_drop (m : List (Int × α)) (k : Int) : keysA (dropA m k) = (keysA m).filter fun z => decide (z ≠ k) := by
  unfold keysA dropA
  rw [List.filter_map]
  rfl
theorem getA_drop {m : List (Int × α)} {k j : Int} : getA (dropA m k) j = if j = k then none else getA m j := by
  induction m with
  | nil => simp [dropA, getA]
  | cons p m ih =>
    obtain ⟨q, x⟩ := p
    unfold dropA at ih ⊢
    by_cases c : q = k
    · subst c
      rw [List.filter_cons_of_neg (by simp), ih]
      by_cases c2 : j = q
      · simp [c2]
      · have : ¬ q = j := fun e => c2 e.symm
        simp [c2, getA, this]
    · rw [List.filter_cons_of_pos (by simpa using c)]
      simp only [getA, ih]
      by_cases c2 : q = j
      · subst c2; simp [c]
      · simp [c2]
theorem dropKs_map (m : List (Int × α)) (k : Int) : dropKs (m.map fun p => .inl p.1) (.inl k) = (dropA m k).map fun p => (Sum.inl p.1 : Key) := by
  induction m with
  | nil => rfl
  | cons p m ih =>
    obtain ⟨q, x⟩ := p
    unfold dropKs dropA at ih ⊢
    by_cases c : q = k
    · subst c
      rw [List.map_cons, List.filter_cons_of_neg (by simp), List.filter_cons_of_neg (by simp)]
      exact ih
    · have h2 : (Sum.inl q : Key) ≠ .inl k := fun z => c (by injection z)
      rw [List.map_cons, List.filter_cons_of_pos (by simpa using h2), List.filter_cons_of_pos (by simpa using c), List.map_cons, ih]
theorem dropXs_map (f : α → D) (m : List (Int × α)) (k : Int) : dropXs (m.map fun p => .inl p.1) (m.map fun p => f p.2) (.inl k) = (dropA m k).map fun p => f p.2 := by
  induction m with
  | nil => rfl
  | cons p m ih =>
    obtain ⟨q, x⟩ := p
    unfold dropA at ih ⊢
    simp only [List.map_cons, dropXs]
    by_cases c : q = k
    · subst c
      rw [List.filter_cons_of_neg (by simp), if_pos rfl]
      exact ih
    · have h2 : (Sum.inl q : Key) ≠ .inl k := fun z => c (by injection z)
      rw [List.filter_cons_of_pos (by simpa using c), if_neg h2, List.map_cons, ih]
theorem dpop_int {f : α → D} {m : List (Int × α)} {k : Int} {v : α} {i : Nat} {vs : List Sv} {st : RSt} (h : getA m k = some v) (hs : (scalD (f v)).isSome = true) :
    dpK2 i (.int k) ⟨vs, st⟩ (some (.ow (dI f true m))) = .ok (f v) ⟨vs.set i (.ow (dI f true (dropA m k))), st⟩ := by
  simp only [dpK2, keyD_int, getD_map, h, Option.map_some, hs, if_true, dropKs_map, dropXs_map]
end
end Fw

/- part FwG -/
namespace Fw
open PySem PySem.Spec PyProof.Rows L2
/-! ### + of two fresh lists: what they own moves on -/
section
variable {X : Cx} {B : Bs} {T : Tm} {ρ : En} {σ : L2.St} {H : Hp} {F : List Addr}
theorem Pt.push1 {vs : List Sv} {fp : Ix → List Addr} {d : D} {v : V} {G : List Addr} (p : Pt B T vs σ H F fp) (r : Rp B.S H (hid (B.M ++ F) H) d v G) (n : G.Nodup) (sub : ∀ a ∈ G, a ∈ F) (dj : ∀ j a, a ∈ G → a ∉ fp j) :
    Pt B (T ++ [(d, v)]) vs σ H F (fpSet fp (.inl T.length) G) := by
  refine ⟨fun j d' v' e => ?_, fun i s e => ?_, fun i => ?_, fun i j a hi hj => ?_, fun i a hi => ?_⟩
  · rcases last_get e with ⟨hj, e⟩ | ⟨ej, e⟩
    · rw [fpSet_ne (by intro z; cases z; omega)]; exact p.tm j _ _ e
    · cases e; rw [ej, fpSet_same]; exact r
  · rw [fpSet_ne (by intro z; cases z)]; exact p.sl i s e
  · by_cases hi : i = .inl T.length
    · rw [hi, fpSet_same]; exact n
    · rw [fpSet_ne hi]; exact p.nd i
  · by_cases qi : i = .inl T.length
    · by_cases qj : j = .inl T.length
      · rw [qi, qj]
      · rw [qi, fpSet_same] at hi
        rw [fpSet_ne qj] at hj
        exact absurd hj (dj j a hi)
    · by_cases qj : j = .inl T.length
      · rw [qj, fpSet_same] at hj
        rw [fpSet_ne qi] at hi
        exact absurd hi (dj i a hj)
      · rw [fpSet_ne qi] at hi; rw [fpSet_ne qj] at hj; exact p.ap i j a hi hj
  · by_cases qi : i = .inl T.length
    · rw [qi, fpSet_same] at hi; exact sub a hi
    · rw [fpSet_ne qi] at hi; exact p.sub i a hi
theorem Pt.pushG {vs : List Sv} : ∀ {xs : List D} {us : List V} {T : Tm} {fp : Ix → List Addr} {G : List Addr}, Pt B T vs σ H F fp → RpL B.S H (hid (B.M ++ F) H) xs us G → G.Nodup → (∀ a ∈ G, a ∈ F) → (∀ j a, a ∈ G → a ∉ fp j) →
    ∃ fp', Pt B (T ++ xs.zip us) vs σ H F fp'
  | [], us, T, fp, G, p, r, _, _, _ => by
    cases r
    exact ⟨fp, by simpa using p⟩
  | x :: xs, us, T, fp, G, p, r, n, sub, dj => by
    cases r with
    | @cons _ v _ us F1 G1 h r =>
      obtain ⟨n1, n2, n3⟩ := List.nodup_append.mp n
      have p1 := p.push1 h n1 (fun a ha => sub a (List.mem_append_left _ ha)) fun j a ha => dj j a (List.mem_append_left _ ha)
      obtain ⟨fp', p'⟩ := Pt.pushG p1 r n2 (fun a ha => sub a (List.mem_append_right _ ha)) fun j a ha hm => by
        by_cases q : j = .inl T.length
        · rw [q, fpSet_same] at hm
          exact n3 a hm a ha rfl
        · rw [fpSet_ne q] at hm
          exact dj j a (List.mem_append_right _ ha) hm
      exact ⟨fp', by rw [List.zip_cons_cons, List.append_cons]; exact p'⟩
theorem own_rp {S : Gs} {Hs : Hp} {v : V} {G : List Addr} {xs : List D} (r : Rp S H Hs (.lst true xs) v G) : ∃ a us G', v = .ref a ∧ H a = some (.lst us) ∧ RpL S H Hs xs us G' ∧ G = a :: G' := by
  cases r with
  | lstO h r => exact ⟨_, _, _, rfl, h, r, rfl⟩
theorem R.open2 {xs ys : List D} {v1 v2 : V} (h : R B (T ++ [(.lst true xs, v1)] ++ [(.lst true ys, v2)]) ρ σ H F) : ∃ a b us ws, v1 = .ref a ∧ v2 = .ref b ∧ H a = some (.lst us) ∧ H b = some (.lst ws) ∧ xs.length = us.length ∧ ys.length = ws.length ∧
    R B (T ++ (xs ++ ys).zip (us ++ ws)) ρ σ H F := by
  obtain ⟨fp, p⟩ := h.pt
  have r1 := p.tm T.length (.lst true xs) v1 (by simp)
  have r2 := p.tm (T.length + 1) (.lst true ys) v2 (by simp)
  obtain ⟨a, us, G1, rfl, ha, l1, g1⟩ := own_rp r1
  obtain ⟨b, ws, G2, rfl, hb, l2, g2⟩ := own_rp r2
  have n1 := p.nd (.inl T.length)
  have n2 := p.nd (.inl (T.length + 1))
  rw [g1] at n1
  rw [g2] at n2
  have ne : (Sum.inl T.length : Ix) ≠ .inl (T.length + 1) := by intro z; injection z with z; omega
  have nn : (G1 ++ G2).Nodup := List.nodup_append.mpr ⟨(List.nodup_cons.mp n1).2, (List.nodup_cons.mp n2).2, fun x hx y hy e => by
    subst e
    exact ne (p.ap _ _ x (by rw [g1]; exact List.mem_cons_of_mem _ hx) (by rw [g2]; exact List.mem_cons_of_mem _ hy))⟩
  have p0 : Pt B T ρ.vs σ H F (fun j => match j with | .inl k => if k < T.length then fp (.inl k) else [] | .inr k => fp (.inr k)) := by
    refine ⟨fun j d v e => ?_, fun i s e => p.sl i s e, fun i => ?_, fun i j x hi hj => ?_, fun i x hi => ?_⟩
    · have hj := (List.getElem?_eq_some_iff.mp e).1
      show Rp _ _ _ _ _ (if j < T.length then fp (.inl j) else [])
      rw [if_pos hj]
      exact p.tm j d v (by rw [List.append_assoc, List.getElem?_append_left hj]; exact e)
    · cases i with
      | inl k =>
        show (if k < T.length then fp (.inl k) else []).Nodup
        split
        · exact p.nd _
        · exact .nil
      | inr k => exact p.nd _
    · have key : ∀ i, x ∈ (match i with | .inl k => if k < T.length then fp (.inl k) else [] | .inr k => fp (.inr k) : List Addr) → x ∈ fp i := fun i hi => by
        cases i with
        | inl k =>
          dsimp only at hi
          split at hi
          · exact hi
          · cases hi
        | inr k => exact hi
      exact p.ap i j x (key i hi) (key j hj)
    · cases i with
      | inl k =>
        dsimp only at hi
        split at hi
        · exact p.sub _ x hi
        · cases hi
      | inr k => exact p.sub _ x hi
  obtain ⟨fp', p'⟩ := p0.pushG (l1.append l2) nn (fun x hx => by
    rcases List.mem_append.mp hx with hx | hx
    · exact p.sub (.inl T.length) x (by rw [g1]; exact List.mem_cons_of_mem _ hx)
    · exact p.sub (.inl (T.length + 1)) x (by rw [g2]; exact List.mem_cons_of_mem _ hx)) fun j x hx hm => by
      have key : ∃ k, x ∈ fp k ∧ k ≠ .inl T.length ∧ k ≠ .inl (T.length + 1) := by
        cases j with
        | inl k =>
          dsimp only at hm
          split at hm
          · exact ⟨_, hm, (by intro z; cases z; omega), (by intro z; cases z; omega)⟩
          · cases hm
        | inr k => exact ⟨_, hm, (by intro z; cases z), (by intro z; cases z)⟩
      obtain ⟨k, k1, k2, k3⟩ := key
      rcases List.mem_append.mp hx with hx | hx
      · exact k2 (p.ap _ _ x k1 (by rw [g1]; exact List.mem_cons_of_mem _ hx))
      · exact k3 (p.ap _ _ x k1 (by rw [g2]; exact List.mem_cons_of_mem _ hx))
  exact ⟨a, b, us, ws, rfl, rfl, ha, hb, l1.length, l2.length, { h with pt := ⟨fp', p'⟩ }⟩
def evCat (f g : En → Out D) : En → Out D := fun ρ => (f ρ).bind fun d ρ1 => (g ρ1).bind fun e ρ2 => match d, e with
  | .lst true xs, .lst true ys => if xs.length + ys.length ≤ sizeLine then .ok (.lst true (xs ++ ys)) ρ2 else .no
  | _, _ => .no
theorem ev_cat {a b : Expr} {f g : En → Out D} {pos : Pos} (ha : PE X a (cE B f)) (hb : PE X b (cE B g)) : PE X (.BinOp a .Add b pos) (cE B (evCat f g)) := (pe_op op_addA ha hb).imp fun σ H Q ⟨T, ρ, F, r, q⟩ => by
  unfold evCat at q
  refine ⟨T, ρ, F, r, Out.wp_mono (Out.wp_bind q) (fun d ρ1 q v1 H1 F1 r1 => ?_) fun _ _ z => z⟩
  refine ⟨T ++ [(d, v1)], ρ1, F1, r1, Out.wp_mono (Out.wp_bind q) (fun e ρ2 q v2 H2 F2 r2 => ?_) fun x ρ2 z cls dd H F xr r => z cls dd H F xr r.drop⟩
  split at q
  · split at q
    · rename_i xs ys _ hz
      obtain ⟨a, b, us, ws, rfl, rfl, ha, hb, l1, l2, r3⟩ := r2.open2
      have hl : (xs ++ ys).length = (us ++ ws).length := by simp [l1, l2]
      refine .inr (.inl ⟨a, b, us, ws, rfl, rfl, ha, hb, by omega, fun p hp => ?_⟩)
      have := r3.mkLst hp (by rw [List.length_zip, hl, List.length_append]; omega)
      rw [zip_fst hl, zip_snd hl] at this
      exact q _ _ _ this
    · exact q.elim
  · exact q.elim
end
/-! what is walked, frozen -/
section
variable {X : Cx} {B : Bs}
def evFz (f : En → Out D) : En → Out D := fun ρ => (f ρ).bind fun d ρ' => .ok (fz d) ρ'
theorem ev_fz {e : Expr} {f : En → Out D} (h : PE X e (cE B f)) : PE X e (cE B (evFz f)) := h.imp fun σ H Q ⟨T, ρ, F, r, q⟩ => by
  unfold evFz at q
  refine ⟨T, ρ, F, r, Out.wp_mono (Out.wp_bind q) (fun d ρ' q v H' F' r' => ?_) fun _ _ z => z⟩
  obtain ⟨F2, r2, rd⟩ := freezeTmp r'
  exact q v H' F2 (r2.push rd)
end
def fzK : Out D → Out D
  | .ok d ρ => .ok (fz d) ρ
  | .ex x ρ => .ex x ρ
  | .no => .no
@[simp] theorem evFz_eq (f : En → Out D) (ρ : En) : evFz f ρ = fzK (f ρ) := by
  rw [evFz, fzK.eq_def]; cases f ρ <;> rfl
@[simp] theorem fzK_ok (d : D) (ρ : En) : fzK (.ok d ρ) = .ok (fz d) ρ := rfl
/-! equations -/
def catK (g : En → Out D) : Out D → Out D
  | .ok d ρ1 => (g ρ1).bind fun e ρ2 => match d, e with
    | .lst true xs, .lst true ys => if xs.length + ys.length ≤ sizeLine then .ok (.lst true (xs ++ ys)) ρ2 else .no
    | _, _ => .no
  | .ex x ρ => .ex x ρ
  | .no => .no
def catK2 (d : D) : Out D → Out D
  | .ok e ρ2 => match d, e with
    | .lst true xs, .lst true ys => if xs.length + ys.length ≤ sizeLine then .ok (.lst true (xs ++ ys)) ρ2 else .no
    | _, _ => .no
  | .ex x ρ => .ex x ρ
  | .no => .no
@[simp] theorem evCat_eq (f g : En → Out D) (ρ : En) : evCat f g ρ = catK g (f ρ) := by
  rw [evCat, catK.eq_def]; cases f ρ <;> rfl
@[simp] theorem catK_ok (g : En → Out D) (d : D) (ρ : En) : catK g (.ok d ρ) = catK2 d (g ρ) := by
  rw [catK, catK2.eq_def]; cases g ρ <;> rfl
theorem catK2_ok {xs ys : List D} {ρ : En} (h : xs.length + ys.length ≤ sizeLine) : catK2 (.lst true xs) (.ok (.lst true ys) ρ) = .ok (.lst true (xs ++ ys)) ρ := if_pos h
end Fw

/- part FwJ -/
namespace Fw
open PySem PySem.Spec PyProof.Rows L2
/-! ### a fresh dict walked where it stands -/
section
variable {X : Cx} {B : Bs} {T ts : Tm} {ρ : En} {σ : L2.St} {H : Hp} {F : List Addr} {d : D} {v : V} {pos pos' p : Pos} {e tg iter : Expr} {f : En → Out D}
def tFz (t : TE) : TE := fun σ H Q => t σ H fun v H1 => ∃ d u, H1 d = some u ∧ Mut (some u) ∧ ∀ od, Q v (upd H1 d (.frz od u))
theorem pe_fz {e : Expr} {t : TE} (h : PE X e t) : PE X e (tFz t) := ⟨fun pins s σ H Q I hw => by
  refine thn (h.run pins s σ H _ I hw) fun v s1 ⟨x, H1, I1, r, d, u, hd, mu, q⟩ => ?_
  obtain ⟨od, I2⟩ := I1.lock hd mu
  exact ⟨x, _, I2, r, q od⟩⟩
def fdD (κ : KI) : D → Option (List D)
  | .dk true ks xs => viewD κ (.dk false ks (frzL xs))
  | _ => none
theorem fdD_dk {κ : KI} {ds : List D} (e : fdD κ d = some ds) : ∃ ks xs, d = .dk true ks xs ∧ viewD κ (.dk false ks (frzL xs)) = some ds := by
  unfold fdD at e
  split at e
  · exact ⟨_, _, rfl, e⟩
  · cases e
def evLcF (κ : KI) (f : En → Out D) (t : D → En → Option En) (c : En → Out Bool) (elt : En → Out D) (own : List Nat) : En → Out D := fun ρ => (f ρ).bind fun d ρ1 => match fdD κ d with
  | some ds => (noEx (lcL t c elt own ds { ρ1 with vs := fgt ρ1.vs own })).bind fun ys ρ2 => .ok (.lst true ys) ρ2
  | none => .no
def sForF (κ : KI) (f : En → Out D) (t : D → En → Option En) (body : En → Out Fl) (fg : List Nat) : En → Out Fl := fun ρ => (f ρ).bind fun d ρ1 => match fdD κ d with
  | some ds => noEx (forL t body fg ds ρ1)
  | none => .no
theorem fresh_dk {ks : List Key} {xs : List D} (r : R B (T ++ [(.dk true ks xs, v)]) ρ σ H F) : ∃ a kvs F2, v = .ref a ∧ H a = some (.dK kvs) ∧ ks = kvs.map (·.1) ∧ B.H0 a = none ∧ a ∉ F2 ∧ a ∉ B.M ∧ R B (T ++ [(.dk false ks (frzL xs), v)]) ρ σ H F2 := by
  obtain ⟨G, rb, hG⟩ := top_rp r
  obtain ⟨F2, r2, rd⟩ := freezeTmp r
  have e : fz (.dk true ks xs) = .dk false ks (frzL xs) := by simp
  rw [e] at rd
  have r3 := r2.push rd
  generalize ek : ks = ks0 at rb
  cases rb with
  | @dkO a kvs _ G' h rl =>
    subst ek
    have ha : a ∈ F := hG a List.mem_cons_self
    have h0 := r.new a ha
    have nM : a ∉ B.M := fun z => r.dj a z ha
    have n2 : a ∉ B.M ++ F2 := by
      clear r3 rl
      generalize kvs.map (·.1) = ks2 at rd
      generalize ([] : List Addr) = G2 at rd
      cases rd with
      | dkS h rl =>
        rcases h with h | ⟨x, h⟩ <;> exact (hid_some h).1
    exact ⟨a, kvs, F2, rfl, h, rfl, h0, fun z => n2 (List.mem_append_right _ z), nM, r3⟩
theorem fz_ground {a : Addr} {kvs : List (Key × V)} (od : Obj) (r : R B T ρ σ H F) (hH : H a = some (.dK kvs)) (h0 : B.H0 a = none) (nF : a ∉ F) (nM : a ∉ B.M) : R { B with H0 := upd B.H0 a (.frz od (.dK kvs)) } T ρ σ (upd H a (.frz od (.dK kvs))) F :=
  r.swap (H0 := upd B.H0 a (.frz od (.dK kvs))) hH (.inl rfl) (.inr ⟨od, rfl⟩) nF nM (fun b u n e => by rwa [upd_ne n] at e) (fun u e => by rw [upd_same] at e; exact (Option.some.inj e).symm) (fun b hb e => by rw [upd_ne (by rintro rfl; exact nF hb)]; exact e)
theorem fz_back {a : Addr} {kvs : List (Key × V)} {od : Obj} (h0 : B.H0 a = none) (nM : a ∉ B.M) (nS : a ∉ sA B.S) (r2 : R { B with H0 := upd B.H0 a (.frz od (.dK kvs)) } T ρ σ H F) : R B T ρ σ H F := by
  have hH := r2.ext a _ upd_same nS
  have ne : ∀ b ∈ F, b ≠ a := fun b hb z => by
    have := r2.new b hb
    rw [z] at this
    have h2 : upd B.H0 a (.frz od (.dK kvs)) a = none := this
    rw [upd_same] at h2; cases h2
  have r3 := r2.swap (H0 := B.H0) hH (.inr ⟨od, rfl⟩) (.inr ⟨od, rfl⟩) (fun z => ne a z rfl) nM (fun b u n e => by show upd B.H0 a _ b = some u; rw [upd_ne n]; exact e) (fun u e => by rw [h0] at e; cases e) (fun b hb e => by
    have h2 : upd B.H0 a (.frz od (.dK kvs)) b = none := e
    rwa [upd_ne (ne b hb)] at h2)
  have same : upd H a (.frz od (.dK kvs)) = H := funext fun b => by
    by_cases c : b = a
    · subst c; rw [upd_same, hH]
    · rw [upd_ne c]
  rwa [same] at r3
/-- what stands behind the iterator -/
theorem dk_it {κ : KI} {te : TE} {σ : L2.St} {H : Hp} {Rr : It → Hp → Prop} (h : te σ H fun v H1 => ∃ a od kvs, v = .ref a ∧ H1 a = some (.frz od (.dK kvs)) ∧ Rr (itK κ a od kvs) H1) (mono : ∀ (Q Q' : VK), (∀ v H, Q v H → Q' v H) → te σ H Q → te σ H Q') : wiK κ te σ H Rr := by
  cases κ with
  | keys => exact mono _ _ (fun v H1 ⟨a, od, kvs, e, ha, q⟩ => ⟨a, od, e, .inl ⟨kvs, ha, q⟩⟩) h
  | vals => exact mono _ _ (fun v H1 ⟨a, od, kvs, e, ha, q⟩ => ⟨a, od, kvs, e, ha, q⟩) h
  | items => exact mono _ _ (fun v H1 ⟨a, od, kvs, e, ha, q⟩ => ⟨a, od, kvs, e, ha, q⟩) h
theorem cE_mono {f : En → Out D} {Q Q' : VK} (k : ∀ v H, Q v H → Q' v H) (h : cE B f σ H Q) : cE B f σ H Q' := by
  obtain ⟨T, ρ, F, r, q⟩ := h
  exact ⟨T, ρ, F, r, Out.wp_mono q (fun d ρ' q v H' F' r' => k _ _ (q v H' F' r')) fun _ _ z => z⟩
theorem tFz_mono {f : En → Out D} {Q Q' : VK} (k : ∀ v H, Q v H → Q' v H) (h : tFz (cE B f) σ H Q) : tFz (cE B f) σ H Q' :=
  cE_mono (fun v H ⟨d, u, hd, mu, q⟩ => ⟨d, u, hd, mu, fun od => k _ _ (q od)⟩) h
theorem es_forF {κ : KI} {t : D → En → Option En} {body : List Stmt} {g : En → Out Fl} {fg : List Nat} (hp : PassesOwn (model X.prog X.w) X.A X.env X.xe) (hc : X.calm = true) (hi : PI X tg iter (wiK κ (tFz (cE B f)))) (hg : ∀ H0, PG X tg (cG { B with H0 := H0 } t))
    (hb : ∀ H0, PSs X body (cS { B with H0 := H0 } g)) (hs : ∀ x, foldedSetIterable iter X.env x = pure x := by intro _; rfl) : PS X (.For tg iter body [] pos) (cS B (sForF κ f t g fg)) := by
  have hG : PG X tg (cGA B t) := ⟨fun pins s σ H v u Q I r ⟨H0, q⟩ => (hg H0).run pins s σ H v u Q I r q⟩
  have hB : PSs X body (cSA B g) := ⟨fun pins s σ H D I ⟨H0, q⟩ => (hb H0).run pins s σ H D I q⟩
  refine (ps_for hp hc hi hG hB hs).imp fun D' σ H ⟨T, ρ, F, r, q⟩ => ?_
  refine dk_it (κ := κ) (te := tFz (cE B f)) ?_ fun Q Q' k h => tFz_mono k h
  unfold sForF at q
  refine ⟨T, ρ, F, r, Out.wp_mono (Out.wp_bind q) (fun d ρ1 q v H1 F1 r1 => ?_) fun _ _ z => exS z⟩
  split at q
  · rename_i ds e2
    obtain ⟨ks, xs, rfl, ev⟩ := fdD_dk e2
    obtain ⟨a, kvs, F2, rfl, ha, rfl, h0, nF, nM, r2⟩ := fresh_dk r1
    have nS : a ∉ sA B.S := fun z => nM (r2.sM a z)
    refine ⟨a, .dK kvs, ha, trivial, fun od => ⟨a, od, kvs, rfl, upd_same, ?_⟩⟩
    have r3 := fz_ground od r2 ha h0 nF nM
    refine for_mid (B := { B with H0 := upd B.H0 a (.frz od (.dK kvs)) }) (fun v σ H Q z => ⟨_, z⟩) (fun D' σ H z => ⟨_, z⟩) r3 (itok_dk (B := B) upd_same nS ev) (Out.wp_mono (noEx_ok (X2 := sxQ { B with H0 := upd B.H0 a (.frz od (.dK kvs)) } T) q) (fun fl ρ2 z => ?_) fun _ _ z => z)
    cases fl with
    | nx => exact fun σ2 H2 F2 r2 => z σ2 _ F2 (fz_back h0 nM nS r2)
    | rt d => exact fun v σ2 H2 F2 r2 => z v σ2 _ F2 (fz_back h0 nM nS r2)
    | bk => exact fun σ2 H2 F2 r2 => z σ2 _ F2 (fz_back h0 nM nS r2)
    | ct => exact fun σ2 H2 F2 r2 => z σ2 _ F2 (fz_back h0 nM nS r2)
  · exact q.elim
theorem lc_runF {κ : KI} {t : D → En → Option En} {c : En → Out Bool} {elt : En → Out D} {own : List Nat} (hfr : B.free own = true) {Q : VK} {tt : Hp → TT} {te : Hp → TE}
    (htt : ∀ H0 σ H Q, cT ({ B with H0 := H0 } : Bs).mute c σ H Q → tt H0 σ H Q) (hte : ∀ H0 σ H Q, cE ({ B with H0 := H0 } : Bs).mute elt σ H Q → te H0 σ H Q) (gt : TG)
    (hgg : ∀ (H0 : Hp) (T : Tm) (ρ : En) (F : List Addr) (d : D) (ρ' : En) (v : V) (σ : L2.St) (H : Hp) (Q : L2.St → Hp → Prop), R { B with H0 := H0 } (T ++ [(d, v)]) ρ (wipe σ own) H F → t d ρ = some ρ' → (∀ σ' H' F', R { B with H0 := H0 } T ρ' σ' H' F' → wipe σ' own = wipe σ own → Q σ' H') → gt v (wipe σ own) H Q)
    (h : cE B (evLcF κ f t c elt own) σ H Q) : tLc (wiK κ (tFz (cE B f))) gt (fun σ H Q => ∃ H0, tt H0 σ H Q) (fun σ H Q => ∃ H0, te H0 σ H Q) own σ H Q := by
  obtain ⟨T, ρ, F, r, q⟩ := h
  unfold evLcF at q
  refine dk_it (κ := κ) (te := tFz (cE B f)) ?_ fun Q Q' k h => tFz_mono k h
  refine ⟨T, ρ, F, r, Out.wp_mono (Out.wp_bind q) (fun d ρ1 q v H1 F1 r1 => ?_) fun _ _ z => z⟩
  split at q
  · rename_i ds e2
    obtain ⟨ks, xs, rfl, ev⟩ := fdD_dk e2
    obtain ⟨a, kvs, F2, rfl, ha, rfl, h0, nF, nM, r2⟩ := fresh_dk r1
    have nS : a ∉ sA B.S := fun z => nM (r2.sM a z)
    refine ⟨a, .dK kvs, ha, trivial, fun od => ⟨a, od, kvs, rfl, upd_same, ?_⟩⟩
    have r3 := fz_ground od r2 ha h0 nF nM
    intro A hA
    refine lc_mid (B := { B with H0 := upd B.H0 a (.frz od (.dK kvs)) }) (tt := fun σ H Q => ∃ H0, tt H0 σ H Q) (te := fun σ H Q => ∃ H0, te H0 σ H Q) hfr (fun σ H Q z => ⟨_, htt _ _ _ _ z⟩) (fun σ H Q z => ⟨_, hte _ _ _ _ z⟩) gt (hgg _) r3 (itok_dk (B := B) upd_same nS ev)
      (fun (ys : List D) ρ2 => ∀ v H' F', R B (T ++ [(D.lst true ys, v)]) ρ2 σ H' F' → Q v H') (fun ys ρ2 v H' F' z r => z v H' F' (fz_back h0 nM nS (R.dropMid r))) ?_ A hA
    exact noEx_ok (X2 := exQ { B with H0 := upd B.H0 a (.frz od (.dK kvs)) } T σ) (Out.wp_mono (Out.wp_bind q) (fun ys ρ2 z => z) fun _ _ z => z)
  · exact q.elim
variable {elt : Expr} {ifs : List Expr} {scope : Scope} {own : List (Str × Nat)} {fc : En → Out Bool} {fe : En → Out D}
theorem ev_lcNF {κ : KI} {i : Nat} {x : Str} {px : Pos} {tt : Hp → TT} (hc : X.calm = true) (hN : X.N.Nodup) (hi : PI X (.Name x px) iter (wiK κ (tFz (cE B f)))) (ok : BlkOk X.N X.env.scope scope own) (hio : i ∈ own.map (·.2))
    (hg : ∀ (s : Shared) (H : Hp) (C : Addr) (cl : List (Str × Addr)) (fp : List Addr), PG (X.blk s H scope (compEnvC scope cl C X.env) fp) (.Name x px) (gName i))
    (ht : ∀ (H0 : Hp) (s : Shared) (H : Hp) (C : Addr) (cl : List (Str × Addr)) (fp : List Addr), PTs (X.blk s H scope (compEnvC scope cl C X.env) fp) ifs (tt H0)) (hti : ∀ H0 σ H Q, cT ({ B with H0 := H0 } : Bs).mute fc σ H Q → tt H0 σ H Q)
    (he : ∀ (H0 : Hp) (s : Shared) (H : Hp) (C : Addr) (cl : List (Str × Addr)) (fp : List Addr), PE (X.blk s H scope (compEnvC scope cl C X.env) fp) elt (cE ({ B with H0 := H0 } : Bs).mute fe)) (hs : ∀ x, foldedSetIterable iter X.env x = pure x := by intro _; rfl) (hme : B.free (own.map (·.2)) = true := by rfl) :
    PE X (.ListComp elt [⟨.Name x px, iter, ifs, 0⟩] scope pos) (cE B (evLcF κ f (tgN i) fc fe (own.map (·.2)))) :=
  (pe_lc (g := gName i) hc hN hi ok hg (fun s H C cl fp => pts_ex fun H0 => ht H0 s H C cl fp) (fun s H C cl fp => pe_ex fun H0 => he H0 s H C cl fp) hs).imp fun σ H Q h => lc_runF hme hti (fun _ _ _ _ z => z) _ (fun H0 => gg_name (B := { B with H0 := H0 }) hme hio) h
theorem ev_lcTF {κ : KI} {is : List Nat} {es : List Expr} {k : Nat} {px : Pos} {tt : Hp → TT} (hc : X.calm = true) (hN : X.N.Nodup) (hi : PI X (.Tuple es k px) iter (wiK κ (tFz (cE B f)))) (ok : BlkOk X.N X.env.scope scope own) (hio : ∀ i ∈ is, i ∈ own.map (·.2))
    (hg : ∀ (s : Shared) (H : Hp) (C : Addr) (cl : List (Str × Addr)) (fp : List Addr), PG (X.blk s H scope (compEnvC scope cl C X.env) fp) (.Tuple es k px) (gTupN X.K is))
    (ht : ∀ (H0 : Hp) (s : Shared) (H : Hp) (C : Addr) (cl : List (Str × Addr)) (fp : List Addr), PTs (X.blk s H scope (compEnvC scope cl C X.env) fp) ifs (tt H0)) (hti : ∀ H0 σ H Q, cT ({ B with H0 := H0 } : Bs).mute fc σ H Q → tt H0 σ H Q)
    (he : ∀ (H0 : Hp) (s : Shared) (H : Hp) (C : Addr) (cl : List (Str × Addr)) (fp : List Addr), PE (X.blk s H scope (compEnvC scope cl C X.env) fp) elt (cE ({ B with H0 := H0 } : Bs).mute fe)) (hs : ∀ x, foldedSetIterable iter X.env x = pure x := by intro _; rfl) (hme : B.free (own.map (·.2)) = true := by rfl) :
    PE X (.ListComp elt [⟨.Tuple es k px, iter, ifs, 0⟩] scope pos) (cE B (evLcF κ f (tgT is) fc fe (own.map (·.2)))) :=
  (pe_lc (g := gTupN X.K is) hc hN hi ok hg (fun s H C cl fp => pts_ex fun H0 => ht H0 s H C cl fp) (fun s H C cl fp => pe_ex fun H0 => he H0 s H C cl fp) hs).imp fun σ H Q h => lc_runF hme hti (fun _ _ _ _ z => z) _ (fun H0 => gg_tup (B := { B with H0 := H0 }) hme hio) h
theorem es_setLcNF {κ : KI} {j : Nat} {y : Str} {py spos : Pos} {i : Nat} {x : Str} {px : Pos} {tt : Hp → TT} (hc : X.calm = true) (hN : X.N.Nodup) (hy : X.N[j]? = some y) (hyl : X.env.scope.names.lookup y = some .local)
    (hsw : swapsWith (.ListComp elt [⟨.Name x px, iter, ifs, 0⟩] scope pos) (some (.Name y py)) spos.line X.env = pure true) (hi : PI X (.Name x px) iter (wiK κ (tFz (cE B f)))) (ok : BlkOk X.N X.env.scope scope own) (hio : i ∈ own.map (·.2))
    (hg : ∀ (s : Shared) (H : Hp) (C : Addr) (cl : List (Str × Addr)) (fp : List Addr), PG (X.blk s H scope (compEnvC scope cl C X.env) fp) (.Name x px) (gName i))
    (ht : ∀ (H0 : Hp) (s : Shared) (H : Hp) (C : Addr) (cl : List (Str × Addr)) (fp : List Addr), PTs (X.blk s H scope (compEnvC scope cl C X.env) fp) ifs (tt H0)) (hti : ∀ H0 σ H Q, cT ({ B with H0 := H0 } : Bs).mute fc σ H Q → tt H0 σ H Q)
    (he : ∀ (H0 : Hp) (s : Shared) (H : Hp) (C : Addr) (cl : List (Str × Addr)) (fp : List Addr), PE (X.blk s H scope (compEnvC scope cl C X.env) fp) elt (cE ({ B with H0 := H0 } : Bs).mute fe)) (hs : ∀ x, foldedSetIterable iter X.env x = pure x := by intro _; rfl) (hme : B.free (own.map (·.2)) = true := by rfl) (hmj : B.free [j] = true := by rfl) :
    PS X (.Assign [.Name y py] (.ListComp elt [⟨.Name x px, iter, ifs, 0⟩] scope pos) spos) (cS B (sAs j (evLcF κ f (tgN i) fc fe (own.map (·.2))))) :=
  es_asD (ps_setLc (g := gName i) hc hN hy hyl hsw hi ok hg (fun s H C cl fp => pts_ex fun H0 => ht H0 s H C cl fp) (fun s H C cl fp => pe_ex fun H0 => he H0 s H C cl fp) hs) (fun σ H Q h => .inr (lc_runF hme hti (fun _ _ _ _ z => z) _ (fun H0 => gg_name (B := { B with H0 := H0 }) hme hio) h)) hmj
theorem es_setLcTF {κ : KI} {j : Nat} {y : Str} {py spos : Pos} {is : List Nat} {es : List Expr} {k : Nat} {px : Pos} {tt : Hp → TT} (hc : X.calm = true) (hN : X.N.Nodup) (hy : X.N[j]? = some y) (hyl : X.env.scope.names.lookup y = some .local)
    (hsw : swapsWith (.ListComp elt [⟨.Tuple es k px, iter, ifs, 0⟩] scope pos) (some (.Name y py)) spos.line X.env = pure true) (hi : PI X (.Tuple es k px) iter (wiK κ (tFz (cE B f)))) (ok : BlkOk X.N X.env.scope scope own) (hio : ∀ i ∈ is, i ∈ own.map (·.2))
    (hg : ∀ (s : Shared) (H : Hp) (C : Addr) (cl : List (Str × Addr)) (fp : List Addr), PG (X.blk s H scope (compEnvC scope cl C X.env) fp) (.Tuple es k px) (gTupN X.K is))
    (ht : ∀ (H0 : Hp) (s : Shared) (H : Hp) (C : Addr) (cl : List (Str × Addr)) (fp : List Addr), PTs (X.blk s H scope (compEnvC scope cl C X.env) fp) ifs (tt H0)) (hti : ∀ H0 σ H Q, cT ({ B with H0 := H0 } : Bs).mute fc σ H Q → tt H0 σ H Q)
    (he : ∀ (H0 : Hp) (s : Shared) (H : Hp) (C : Addr) (cl : List (Str × Addr)) (fp : List Addr), PE (X.blk s H scope (compEnvC scope cl C X.env) fp) elt (cE ({ B with H0 := H0 } : Bs).mute fe)) (hs : ∀ x, foldedSetIterable iter X.env x = pure x := by intro _; rfl) (hme : B.free (own.map (·.2)) = true := by rfl) (hmj : B.free [j] = true := by rfl) :
    PS X (.Assign [.Name y py] (.ListComp elt [⟨.Tuple es k px, iter, ifs, 0⟩] scope pos) spos) (cS B (sAs j (evLcF κ f (tgT is) fc fe (own.map (·.2))))) :=
  es_asD (ps_setLc (g := gTupN X.K is) hc hN hy hyl hsw hi ok hg (fun s H C cl fp => pts_ex fun H0 => ht H0 s H C cl fp) (fun s H C cl fp => pe_ex fun H0 => he H0 s H C cl fp) hs) (fun σ H Q h => .inr (lc_runF hme hti (fun _ _ _ _ z => z) _ (fun H0 => gg_tup (B := { B with H0 := H0 }) hme hio) h)) hmj
end
/-! equations -/
def lfK (κ : KI) (t : D → En → Option En) (c : En → Out Bool) (elt : En → Out D) (own : List Nat) : Out D → Out D
  | .ok d ρ1 => ld2 t c elt own ρ1 (fdD κ d)
  | .ex x ρ => .ex x ρ
  | .no => .no
@[simp] theorem evLcF_eq (κ : KI) (f : En → Out D) (t : D → En → Option En) (c : En → Out Bool) (elt : En → Out D) (own : List Nat) (ρ : En) : evLcF κ f t c elt own ρ = lfK κ t c elt own (f ρ) := by
  rw [evLcF, lfK.eq_def]
  cases f ρ with
  | ok d ρ1 =>
    simp only [Out.bind]
    rw [ld2.eq_def]
    cases fdD κ d with
    | none => rfl
    | some ds =>
      simp only
      cases lcL t c elt own ds { ρ1 with vs := fgt ρ1.vs own } <;> rfl
  | ex x ρ1 => rfl
  | no => rfl
@[simp] theorem lfK_ok (κ : KI) (t : D → En → Option En) (c : En → Out Bool) (elt : En → Out D) (own : List Nat) (d : D) (ρ : En) : lfK κ t c elt own (.ok d ρ) = ld2 t c elt own ρ (fdD κ d) := rfl
def ffK (κ : KI) (t : D → En → Option En) (body : En → Out Fl) (fg : List Nat) : Out D → Out Fl
  | .ok d ρ1 => fd2 t body fg ρ1 (fdD κ d)
  | .ex x ρ => .ex x ρ
  | .no => .no
@[simp] theorem sForF_eq (κ : KI) (f : En → Out D) (t : D → En → Option En) (body : En → Out Fl) (fg : List Nat) (ρ : En) : sForF κ f t body fg ρ = ffK κ t body fg (f ρ) := by
  rw [sForF, ffK.eq_def]
  cases f ρ with
  | ok d ρ1 =>
    simp only [Out.bind]
    rw [fd2.eq_def]
    first | done | (cases fdD κ d <;> rfl)
  | ex x ρ1 => rfl
  | no => rfl
@[simp] theorem ffK_ok (κ : KI) (t : D → En → Option En) (body : En → Out Fl) (fg : List Nat) (d : D) (ρ : En) : ffK κ t body fg (.ok d ρ) = fd2 t body fg ρ (fdD κ d) := rfl
@[simp] theorem fdD_ok (κ : KI) (ks : List Key) (xs : List D) : fdD κ (.dk true ks xs) = viewD κ (.dk false ks (frzL xs)) := rfl
end Fw

/- part FwK -/
namespace Fw
open PySem PySem.Spec PyProof.Rows L2
/-! ### C0.__init__(self, ..), C0 an own class whose __init__ is ValueError's -/
section
variable {X : Cx} {e : Expr} {es : List Expr} {ta : TA} {p1 p2 pos : Pos}
theorem pe_coinit {x : Str} {C0 : Addr} {pl : Sem Bool} {mc : Value} (hg : Gl X x) (hm : X.mg x = some (.ref C0)) (hr : PySem.W.readsIn X.K C0 mc = true) (hsp : PySem.W.specialIn X.K (.ref C0) "__getattribute__" = some (some (.builtin "type.__getattribute__")))
    (vV : PySem.W.findCls X.K (.ref C0) mc "__init__" = some (.val (.builtin "ValueError.__init__"))) (ha : PA X (e :: es) ta)
    (hc : eval (.Call (.Attribute (.Name x p1) "__init__" p2) (e :: es) [] pos) X.env = (do
      let ov ← eval (.Name x p1) X.env
      standAt p2.atName
      let (f, first) ← holding [ov] (getMethod ov "__init__" pl)
      callWith pos f first (backTo pos (starEach (e :: es) X.env)) (backToKw pos (keywordEach [] X.env))) := by rfl)
    (he : starEach (e :: es) X.env = (false, eval e X.env) :: starEach es X.env := by rfl) (hpl : (backTo pos (starEach es X.env)).any (·.1) = false := by rfl) (hd : (x == ("__debug__" : Str)) = false := by decide) :
    PE X (.Call (.Attribute (.Name x p1) "__init__" p2) (e :: es) [] pos) (tVeI X.K ta) := by
  refine ⟨fun pins s σ H Q I h => ?_⟩
  refine PySem.W.methodCall_KW (ld_glob I hg hm ?_ (by assumption)) hc
  refine PySem.W.method_cls I.kIn hsp (PySem.W.cls_value I.kIn hr vV (by decide +kernel) ?_)
  show wpAny _ _ (callWith pos (Value.builtin "ValueError.__init__") [] (backTo pos (starEach (e :: es) X.env)) []) _ _ _
  refine PyProof.Rows.callWith_method1 (thn (ha.run pos pins _ σ H _ (I.tok _) h) fun us s1 ⟨vs, H1, I1, r1, a, C, ws, ev, hl, T, ea, q⟩ => ?_) he hpl
  subst ev
  cases r1 with
  | @cons _ u0 _ ur ra rw' =>
    obtain rfl : u0 = Value.ref a := ra
    have hlen : ur.length ≤ sizeLine := by
      rw [← Paired.length rw', sizeLine_eq]
      omega
    exact oinit_ok T I1 ea hlen fun s' J => ⟨.non, H1, J, rfl, q⟩
end
/-! ### str(a whole number) -/
section
variable {X : Cx} {B : Bs}
def rStrI : List V → Hp → VK → Prop := fun xs H Q => ∃ i : Int, xs = [.int i] ∧ i.natAbs.log2 < 1920 ∧ Q (.str (toString i)) H
theorem call_strI : CallR X (.type "str") rStrI := call_str_int
def opStr : List D → Option D
  | [.int i] => if i.natAbs.log2 < 1920 then some (.str (toString i)) else none
  | _ => none
theorem opStr_S : OpS B rStrI opStr := by
  intro T ts ρ σ H F ps ds vs Q d h o e q
  unfold opStr at e
  split at e
  · split at e
    · rename_i hz
      cases e
      obtain ⟨v1, G1, rfl, r1⟩ := o.one h
      cases r1.int
      exact ⟨_, rfl, hz, q _ _ _ (h.drop.push (.str _))⟩
    · cases e
  · cases e
end
end Fw

/- part FwM -/
set_option maxHeartbeats 2000000
namespace Fw
open PySem PySem.Spec PyProof.Rows L2
/-! ### a caught exception is kept as a value -/
section
variable {X : Cx}
theorem inv_keep {pins : List (Addr × Obj)} {σ σ6 : L2.St} {H H6 : Hp} {sI s6 : Shared} {B : Heap} {a : Addr} {cls : Value} {d : Option Addr} {oe : Obj} {vs : Array Value}
    (J : Inv X pins σ H sI) (nb : ∀ b o, sI.heap.get? b = some o → b ∉ frs X.stack → B.get? b = some o) (hB : B.get? a = none) (hst : a ∉ frs X.stack) (hx : X.ex = [])
    (J6 : Inv X pins σ6 H6 s6) (n6 : H6 a = none) (e6 : s6.heap.get? a = some oe) (hz : Zc cls d oe) (hd : oe.data = .fields vs) (nL : a ≠ X.env.locals) :
    Inv X pins σ6 (upd H6 a (ExV cls d a)) s6 := by
  have nI : ∀ o, sI.heap.get? a ≠ some o := fun o e => by
    have := nb a o e hst
    rw [hB] at this; cases this
  have n0 : ∀ o, X.s_0.heap.get? a ≠ some o := fun o e => by
    obtain ⟨o2, e2⟩ := J.base.there a o e (by rw [hx]; exact List.not_mem_nil)
    exact nI o2 e2
  have old : ∀ {b : Addr} {u : HO}, H6 b = some u → upd H6 a (ExV cls d a) b = some u := fun {b u} q => by rw [upd_ne (ne_of_none q n6)]; exact q
  have gone : ∀ {b : Addr}, H6 b = none → b ≠ a → upd H6 a (ExV cls d a) b = none := fun {b} q n => by rw [upd_ne n]; exact q
  have nw : ObjOk X.prog X.w (upd H6 a (ExV cls d a)) s6.heap a (ExV cls d a) :=
    ⟨⟨oe, vs, e6, hz, hd⟩, ⟨oe, e6⟩, fun h1 h2 ⟨o, v, q, r⟩ k => ⟨o, v, k o q, r⟩⟩
  refine { J6 with base := { J6.base with free := fun b o q n hb => ?_, tups := fun b xs q => old (J6.base.tups b xs q), frzs := fun b o u q => old (J6.base.frzs b o u q), tbls := fun b ps q => ?_ }, free := gone J6.free (Ne.symm nL), freeC := fun x c e => gone (J6.freeC x c e) ?_, pin := fun p hp => ?_, hok := J6.hok.laidN (fun _ _ z => z) n6 nw }
  · exact gone (J6.base.free b o q n hb) fun z => n0 o (z ▸ q)
  · obtain ⟨more, q2⟩ := J6.base.tbls b ps q
    exact ⟨more, old q2⟩
  · rintro rfl
    obtain ⟨v, oc, hoc, hdc⟩ := J6.cell x c e
    rw [e6] at hoc; cases hoc
    rw [hd] at hdc; cases hdc
  · obtain ⟨p1, p2, p3⟩ := J6.pin p hp
    refine ⟨p1, gone p2 fun z => ?_, p3⟩
    have := (J.pin p hp).1
    rw [z] at this
    exact nI _ this
/-- the wish of a try that keeps what it caught in slot j -/
def wKeep (K : PySem.W.Frag) (c : Value) (i j : Nat) (Wout : WX) (D : Ends) : WX := fun cls d σ H =>
  ∃ b, PySem.W.exmOne K cls c = some b ∧ (b = true → ∀ a, H a = none → D.nx (((σ.set i (some (.ref a))).set j (some (.ref a))).set i none) (upd H a (ExV cls d a))) ∧ (b = false → Wout cls d σ H)
variable {x n y : Str} {c : Value} {i j : Nat} {body : List Stmt} {np pos pos' py pn pa : Pos} {tb : WX → TS} {Wout : WX}
theorem ps_try_keep (hs : X.stack = X.env :: X.outer) (hf : X.env.frame = some X.env.locals) (hex : X.ex = []) (hN : X.N.Nodup) (hi : X.N[i]? = some n) (hln : X.env.kindOf n = some .local) (hij : i ≠ j) (hc : Names X x c) (tk : Takes X Wout)
    (hb : ∀ (W : WX) (pn : List (Addr × Obj)) (xe : Value → Shared → Prop), Takes (X.tr pn xe) W → PassesOwn (model X.prog X.w) X.A X.env xe → PSs (X.tr pn xe) body (tb W))
    (hsu : ∀ (a : Addr) (oe : Obj) (pn' : List (Addr × Obj)), PSs (X.suite a ((a, oe) :: pn')) [.Assign [.Name y py] (.Name n pn) pa] (tAsg (tVar i) (gName j))) :
    PS X (.Try body [.ExceptHandler (some (.Name x np)) (some n) [.Assign [.Name y py] (.Name n pn) pa] pos'] [] [] pos) (fun D σ H => tb (wKeep X.K c i j Wout D) D σ H) := by
  constructor
  intro pins s σ H D I hw
  have ok := I.ok
  have hfr : X.A.frames = some (X.env :: X.outer) := by rw [ok.frames, hs]
  have hlo : Loc X.env.scope n := .inl hln
  refine wpAny_Try_except (wpAny_mono ((hb (wKeep X.K c i j Wout D) (X.pn ++ pins) _ (fun u s1 xx => ?_) PassesOwn.looking).run [] s σ H D (I.toTry _) hw) (fun fl s1 hsp => ?_) fun _ _ z => z)
  · -- what was caught
    obtain ⟨a, B, sI, pins1, σ1, H1, cls, d, rfl, J0, nb, up, sky, na, os, ag, b, hb1, yes, no⟩ := xx
    have J : Inv X pins σ1 H1 sI := J0.ofTry ok
    rw [show (X.tr (X.pn ++ pins) _).stack = X.env :: X.outer from hs] at sky
    show wpAny (model X.prog X.w) X.A (noteFrame (.ref a) X.env) _ _ _
    refine Sky.land Zc.steady hfr hf sky fun h2 fl2 up2 => ?_
    have J2 : Inv X pins σ1 H1 { s1 with heap := h2 } := J.landed nb fl2.1 (up.trans up2) os ag
    obtain ⟨oe2, vs2, he2, hz2, hd2⟩ := fl2.there
    have hst : a ∉ frs (X.env :: X.outer) := fun hm => by
      obtain ⟨_, o2, q1, q2⟩ := fl2.2.2.1.mem hm
      rw [he2] at q1
      cases q1
      exact q2 vs2 hd2
    have nL : a ≠ X.env.locals := fun z => hst (by rw [z]; exact List.mem_filterMap.mpr ⟨X.env, List.mem_cons_self, hf⟩)
    have nF : a ∉ X.fs := fun hm => by
      obtain ⟨e, he, q⟩ := List.mem_filterMap.mp hm
      exact hst (List.mem_filterMap.mpr ⟨e, List.mem_cons_of_mem _ he, q⟩)
    have hst' : a ∉ frs X.stack := by rw [hs]; exact hst
    refine wpAny_handleBy_cons (codeAny_handlers_test ?_) (by intro q; cases q)
    have lt : PySem.W.Looks (model X.prog X.w) h2 (typeOf (.ref a)) cls := fun A Q E s0 k q => wpAny_typeOf_ref (k _ _ he2) (by rw [hz2.1]; exact q)
    have S2 := J2.suite he2 hd2 na nL nF
    have name : ∀ {Q E : Value → Shared → Prop}, Q c { s1 with heap := h2 } → wpAny (model X.prog X.w) (X.A.mark (some (.ref a))) (eval (.Name x np) X.env) Q E { s1 with heap := h2 } := fun {Q E} q => by
      obtain ⟨g1, g2, g3⟩ := hc
      rcases g3 with g3 | ⟨g3, g4, g5⟩
      · exact ld_glob (X := X.suite a ((a, oe2) :: (X.pn ++ pins))) S2 g1 g3 q g2
      · exact ld_blt (X := X.suite a ((a, oe2) :: (X.pn ++ pins))) S2 g1 g3 g4 q g5 g2
    refine name ((PySem.W.exm_one (M := model X.prog X.w) J2.kIn lt hb1).here ?_)
    cases b with
    | false =>
      show wpAny _ X.A (handleBy (.ref a) X.env []) _ _ _
      refine wpAny_handleBy_nil ?_
      have fl2' := fl2
      obtain ⟨_, _, _, oe, vs, T, oT, ts', he, hz, hd, h1, _⟩ := fl2'
      unfold PySem.passOn
      refine wpAny_bind (wpAny_field he hd h1 ?_)
      rw [if_neg (by simp)]
      have fin : wpAny (model X.prog X.w) X.A (setFlight (.ref a) X.env.frame) (fun _ s4 => wpAny (model X.prog X.w) X.A (throw (.ref a) : Sem Flow) (SP X pins D) X.xe s4) X.xe { s1 with heap := h2 } := by
        rw [hf]
        refine HandSPX.setFlight_upZ fl2 fun h4 hh4 up4 => wpAny_throw (tk _ _ ⟨a, B, sI, pins, σ1, H1, cls, d, rfl, J, nb, (up.trans up2).trans up4, .inr (.inr ?_), na, os, ag, no rfl⟩)
        rw [hs]; exact hh4
      first
        | exact wpAny_bind (wpAny_pure (wpAny_bind fin))
        | exact wpAny_bind fin
    | true =>
      refine codeAny_handlers_suite_as (HandSPX.lands_againZ fl2 fun h4 fl4 up4 => ?_)
      have J4 : Inv X pins σ1 H1 { s1 with heap := h4 } := J.landed nb fl4.1 ((up.trans up2).trans up4) os ag
      obtain ⟨oe4, vs4, he4, hz4, hd4⟩ := fl4.there
      refine store_ok (X := X.suite a ((a, oe4) :: (X.pn ++ pins))) (v := .ref a) (J4.suite he4 hd4 na nL nF) hN hi hlo rfl (fun s5 S5 => ?_) (.inr hln)
      have hil : i < σ1.length := by rw [J.len]; exact (List.getElem?_eq_some_iff.mp hi).1
      refine wpAny_mono ((hsu a oe4 (X.pn ++ pins)).run [] s5 (σ1.set i (some (.ref a))) H1 { nx := fun σ6 H6 => σ6 = (σ1.set i (some (.ref a))).set j (some (.ref a)) ∧ H6 = H1, rt := fun _ _ => False } S5 ⟨.ref a, List.getElem?_set_self hil, rfl, rfl⟩) (fun f s6 hsp => ?_) (fun _ _ z => False.elim z)
      cases f with
      | next =>
        obtain ⟨σ6, H6, S6, rfl, rfl⟩ := hsp
        have e6 := (S6.pin (a, oe4) (List.mem_append_left _ List.mem_cons_self)).1
        exact gone_ok (inv_keep J nb fl4.2.1 hst' hex (S6.unsuite ok) na e6 hz4 hd4 nL) hN hi hln fun s7 J7 => ⟨_, _, J7, yes rfl a na⟩
      | brk =>
        obtain ⟨_, _, _, z⟩ := hsp
        exact z.elim
      | cont =>
        obtain ⟨_, _, _, z⟩ := hsp
        exact z.elim
      | ret u =>
        obtain ⟨_, _, _, _, _, z⟩ := hsp
        exact z.elim
  · cases fl with
    | next =>
      obtain ⟨σ1, H1, J, q⟩ := hsp
      exact wpAny_execs_nil ⟨σ1, H1, J.ofTry ok, q⟩
    | brk =>
      obtain ⟨σ1, H1, J, q⟩ := hsp
      exact ⟨σ1, H1, J.ofTry ok, q⟩
    | cont =>
      obtain ⟨σ1, H1, J, q⟩ := hsp
      exact ⟨σ1, H1, J.ofTry ok, q⟩
    | ret u =>
      obtain ⟨v, σ1, H1, J, r, q⟩ := hsp
      exact ⟨v, σ1, H1, J.ofTry ok, r, q⟩
end
end Fw

/- part FwN -/
namespace Fw
open PySem PySem.Spec PyProof.Rows L2
section
variable {X : Cx} {B : Bs} {T : Tm} {ρ : En} {σ : L2.St} {H : Hp} {F : List Addr}
/-! ### the same ground with another wish -/
abbrev Bs.setW (B : Bs) (W : WX) : Bs := { B with W := W }
theorem R.setW (W : WX) (h : R B T ρ σ H F) : R (B.setW W) T ρ σ H F := by
  obtain ⟨a1, ⟨fp, p1, p2, p3, p4, p5⟩, a3, a4, a5, a6, a7, a8, a9, a10, a11⟩ := h
  exact ⟨a1, ⟨fp, p1, p2, p3, p4, p5⟩, a3, a4, a5, a6, a7, a8, a9, a10, a11⟩
theorem R.unW {W : WX} (h : R (B.setW W) T ρ σ H F) : R B T ρ σ H F := by
  obtain ⟨a1, ⟨fp, p1, p2, p3, p4, p5⟩, a3, a4, a5, a6, a7, a8, a9, a10, a11⟩ := h
  exact ⟨a1, ⟨fp, p1, p2, p3, p4, p5⟩, a3, a4, a5, a6, a7, a8, a9, a10, a11⟩
theorem slQ_W {W : WX} {D' : Ends} {fl : Fl} (h : slQ B T D' fl ρ) : slQ (B.setW W) T D' fl ρ := by
  cases fl with
  | nx => exact fun σ H F r => h σ H F r.unW
  | rt d => exact fun v σ H F r => h v σ H F r.unW
  | bk => exact fun σ H F r => h σ H F r.unW
  | ct => exact fun σ H F r => h σ H F r.unW
/-! ### raise C('..'), a class without an own __init__ -/
structure ExC0 (K : PySem.W.Frag) (mg : Str → Option Value) (x : Str) : Prop where
  nz : clsAt K x ≠ 0
  g : mg x = some (.ref (clsAt K x))
  q : PySem.W.excIn K (clsAt K x) [.type "ValueError", .type "Exception", .type "BaseException", .type "object"] "ValueError.__new__" = true
  k : PySem.W.keepIn K (.ref (clsAt K x)) = true
  b : PySem.W.subIn K (.ref (clsAt K x)) (.type "BaseException") = some true
  t : PySem.W.typeIn K (.ref (clsAt K x)) = some (.type "type")
def sRaise0 (C : Str) : En → Out Fl := fun ρ => .ex ⟨C, [], []⟩ ρ
theorem es_raise0 {x m : Str} {j : Nat} {p p2 pos pos2 : Pos} (E : ExC0 X.K X.mg x) (hcl : B.S.cl = clsAt X.K) (tk : Takes X B.W) (hc : X.calm = true) (hg : Gl X x) (hdb : (x == ("__debug__" : Str)) = false := by decide) :
    PS X (.Raise (some (.Call (.Name x p) [.Constant (.str m) j p2] [] pos)) none pos2) (cS B (sRaise0 x)) :=
  (ps_raise hc tk (pmk_own PySem.F.excBase_ValueError E.q E.g E.k (raises_own E.b E.t) hg hdb)).imp fun D' σ H ⟨T, ρ, F, r, q⟩ => by
    refine q (.ref (clsAt X.K x)) none σ H F ⟨by rw [hcl], by show B.S.cl x ≠ 0; rw [hcl]; exact E.nz, rfl⟩ r
/-! ### try: .. except C: .. -/
def sTry (tab : List (Str × Bool)) (body suite : En → Out Fl) : En → Out Fl := fun ρ => match body ρ with
  | .ok fl ρ' => .ok fl ρ'
  | .ex x ρ' => match tab.lookup x.cls with
    | some true => noEx (suite ρ')
    | some false => .ex x ρ'
    | none => .no
  | .no => .no
/-- which classes an except clause takes -/
def ExT (K : PySem.W.Frag) (c : Value) (tab : List (Str × Bool)) : Prop := ∀ p ∈ tab, clsAt K p.1 ≠ 0 → PySem.W.exmOne K (.ref (clsAt K p.1)) c = some p.2
theorem ext_nil {K : PySem.W.Frag} {c : Value} : ExT K c [] := fun _ h => nomatch h
theorem ext_cons {K : PySem.W.Frag} {c : Value} {e : Str} {b : Bool} {tab : List (Str × Bool)} (h : clsAt K e ≠ 0 → PySem.W.exmOne K (.ref (clsAt K e)) c = some b) (r : ExT K c tab) : ExT K c ((e, b) :: tab) := fun p hp => by
  rcases List.mem_cons.mp hp with rfl | hp
  · exact h
  · exact r p hp
theorem lookup_mem {tab : List (Str × Bool)} {e : Str} {b : Bool} (h : tab.lookup e = some b) : (e, b) ∈ tab := by
  induction tab with
  | nil => cases h
  | cons p tab ih =>
    obtain ⟨f, z⟩ := p
    by_cases c : e = f
    · subst c
      simp [List.lookup] at h
      subst h
      exact List.mem_cons_self
    · have : (e == f) = false := by simpa using c
      rw [List.lookup, this] at h
      exact List.mem_cons_of_mem _ (ih h)
variable {x n y : Str} {c : Value} {i j : Nat} {body suite : List Stmt} {b₀ : Stmt} {np pos pos' py pn pa : Pos} {tab : List (Str × Bool)} {fb fs : En → Out Fl}
theorem noEx_ex {α : Type} {o : Out α} {Q : α → En → Prop} {Z Z' : Exc → En → Prop} (h : (noEx o).wp Q Z) : o.wp Q Z' := by
  cases o with
  | ok a ρ => exact h
  | ex x ρ => exact h.elim
  | no => exact h.elim
theorem es_try (ht : ExT X.K c tab) (hcl : B.S.cl = clsAt X.K) (hs : X.stack = X.env :: X.outer) (hf : X.env.frame = some X.env.locals) (hc : Names X x c) (tk : Takes X B.W)
    (hb : ∀ (W : WX) (pn : List (Addr × Obj)) (xe : Value → Shared → Prop), Takes (X.tr pn xe) W → PassesOwn (model X.prog X.w) X.A X.env xe → PSs (X.tr pn xe) body (cS (B.setW W) fb))
    (hsu : ∀ (a : Addr) (oe : Obj) (pn : List (Addr × Obj)), PSs (X.suite a ((a, oe) :: pn)) (b₀ :: suite) (cS B.mute fs)) :
    PS X (.Try body [.ExceptHandler (some (.Name x np)) none (b₀ :: suite) pos'] [] [] pos) (cS B (sTry tab fb fs)) :=
  (ps_try_only (ts := fun _ _ _ => cS B.mute fs) hs hf hc tk hb (fun a oe _ _ pn _ _ => hsu a oe pn)).imp fun D' σ H ⟨T, ρ, F, r, q⟩ => by
    refine ⟨T, ρ, F, r.setW _, ?_⟩
    unfold sTry at q
    cases e : fb ρ with
    | no => rw [e] at q; exact q.elim
    | ok fl ρ' => rw [e] at q; exact slQ_W q
    | ex x ρ' =>
      rw [e] at q
      dsimp only at q
      intro cls d σ' H' F' xr r'
      obtain ⟨ec, ez, ed⟩ := xr
      cases el : tab.lookup x.cls with
      | none => rw [el] at q; exact q.elim
      | some b =>
        rw [el] at q
        have hm := ht _ (lookup_mem el) (by rw [hcl] at ez; exact ez)
        refine ⟨b, by rw [ec]; show PySem.W.exmOne X.K (.ref (B.S.cl x.cls)) c = _; rw [hcl]; exact hm, ?_, ?_⟩
        · rintro rfl a ha
          exact ⟨T, ρ', F', r'.unW.mute, Out.wp_mono (noEx_ex (Z' := sxQ B.mute T) q) (fun fl ρ2 z => slQ_W z) fun _ _ z => z⟩
        · rintro rfl
          exact q cls d σ' H' F' ⟨ec, ez, ed⟩ r'.unW
/-! ### try: .. except C as e: x = e -/
def sTryKeep (tab : List (Str × Bool)) (i j : Nat) (body : En → Out Fl) : En → Out Fl := fun ρ => match body ρ with
  | .ok fl ρ' => .ok fl ρ'
  | .ex x ρ' => match tab.lookup x.cls with
    | some true => .ok .nx { ρ' with vs := (ρ'.vs.set j (.sh (.ev x.cls (x.fs.map (·.1)) (x.fs.map (·.2))))).set i .no }
    | some false => .ex x ρ'
    | none => .no
  | .no => .no
theorem R.noSlot {i : Nat} {o : Option V} (h : R B T ρ σ H F) (hf : B.free [i] = true) : R B T { ρ with vs := ρ.vs.set i .no } (σ.set i o) H F := by
  have h2 := h.forget [i]
  refine h2.slots (by simp) (fun k s e => ?_) fun k a q => ?_
  · rcases getElem?_set' (show (ρ.vs.set i .no)[k]? = some s from e) with ⟨_, z⟩ | ⟨ne, _⟩
    · exact .inl z
    · exact .inr (List.getElem?_set_ne ne)
  · rw [List.getElem?_set_ne (by rintro rfl; rw [Bs.free1 hf] at q; cases q)]
theorem es_tryKeep (ht : ExT X.K c tab) (hcl : B.S.cl = clsAt X.K) (hs : X.stack = X.env :: X.outer) (hf : X.env.frame = some X.env.locals) (hex : X.ex = []) (hN : X.N.Nodup) (hi : X.N[i]? = some n) (hln : X.env.kindOf n = some .local) (hij : i ≠ j) (hc : Names X x c) (tk : Takes X B.W)
    (hb : ∀ (W : WX) (pn : List (Addr × Obj)) (xe : Value → Shared → Prop), Takes (X.tr pn xe) W → PassesOwn (model X.prog X.w) X.A X.env xe → PSs (X.tr pn xe) body (cS (B.setW W) fb))
    (hsu : ∀ (a : Addr) (oe : Obj) (pn' : List (Addr × Obj)), PSs (X.suite a ((a, oe) :: pn')) [.Assign [.Name y py] (.Name n pn) pa] (tAsg (tVar i) (gName j))) (hmi : B.free [i] = true := by rfl) (hmj : B.free [j] = true := by rfl) :
    PS X (.Try body [.ExceptHandler (some (.Name x np)) (some n) [.Assign [.Name y py] (.Name n pn) pa] pos'] [] [] pos) (cS B (sTryKeep tab i j fb)) :=
  (ps_try_keep hs hf hex hN hi hln hij hc tk hb hsu).imp fun D' σ H ⟨T, ρ, F, r, q⟩ => by
    refine ⟨T, ρ, F, r.setW _, ?_⟩
    unfold sTryKeep at q
    cases e : fb ρ with
    | no => rw [e] at q; exact q.elim
    | ok fl ρ' => rw [e] at q; exact slQ_W q
    | ex x ρ' =>
      rw [e] at q
      dsimp only at q
      intro cls d σ' H' F' xr r'
      have r1 := r'.unW
      obtain ⟨ec, ez, ed⟩ := xr
      cases el : tab.lookup x.cls with
      | none => rw [el] at q; exact q.elim
      | some b =>
        rw [el] at q
        have hm := ht _ (lookup_mem el) (by rw [hcl] at ez; exact ez)
        refine ⟨b, by rw [ec]; show PySem.W.exmOne X.K (.ref (B.S.cl x.cls)) c = _; rw [hcl]; exact hm, ?_, ?_⟩
        · rintro rfl a ha
          have hM : a ∉ B.M ++ F' := fun z => by
            rcases List.mem_append.mp z with z | z
            · exact r1.md a z ha
            · exact r1.own a z ha
          have hup : ∀ b u, H' b = some u → upd H' a (ExV cls d a) b = some u := same_upd ha
          have r2 := r1.grow hup (r1.hl.upd (by intro vs z; rcases z with z | z <;> cases (show HO.ext _ = _ from z)))
          have key : ∃ fvs : List (Str × V), fvs.map (·.1) = x.fs.map (·.1) ∧ ExD (hid (B.M ++ F') (upd H' a (ExV cls d a))) d fvs ∧ (x.fs.map (·.2)).map scV = fvs.map fun p => some p.2 := by
            cases d with
            | none => exact ⟨[], by rw [ed]; rfl, rfl, by rw [ed]; rfl⟩
            | some dd =>
              obtain ⟨fvs, e1, e2, e3⟩ := ed
              exact ⟨fvs, e2, hid_mono hup _ _ e1, by rw [List.map_map]; exact e3⟩
          obtain ⟨fvs, k1, k2, k3⟩ := key
          have rp : Rp B.S (upd H' a (ExV cls d a)) (hid (B.M ++ F') (upd H' a (ExV cls d a))) (.ev x.cls (x.fs.map (·.1)) (x.fs.map (·.2))) (.ref a) [] := by
            rw [← k1]
            exact .ev (hid_of (by rw [upd_same, ec]) hM) k2 k3 ez
          have r3 := (r2.push rp).store (i := j) hmj
          rw [show mkSv (D.ev x.cls (x.fs.map (·.1)) (x.fs.map (·.2))) = .sh (.ev x.cls (x.fs.map (·.1)) (x.fs.map (·.2))) from if_pos (by simp [shr])] at r3
          have r4 := r3.noSlot (i := i) (o := none) hmi
          refine q _ _ F' ?_
          have e5 : ((σ'.set i (some (V.ref a))).set j (some (.ref a))).set i none = (σ'.set j (some (.ref a))).set i none := by
            rw [List.set_comm _ _ hij, List.set_set]
          rw [e5]
          exact r4
        · rintro rfl
          exact q cls d σ' H' F' ⟨ec, ez, ed⟩ r1
end
end Fw

/- part FwH -/
namespace Fw
open PySem PySem.Spec PyProof.Rows L2
/-! ### isinstance(x, C), x an exception that is held, or any plain thing -/
/-- at a: a held exception of the class D -/
def HasX (H : Hp) (a D : Addr) : Prop := ∃ d : Option Addr, H a = some (ExV (.ref D) d a) ∧ ∀ dd, d = some dd → ∃ fs, H dd = some (.xd fs)
theorem inst_x {X : Cx} {pins : List (Addr × Obj)} {σ : L2.St} {H : Hp} {s : Shared} {a D : Addr} (I : Inv X pins σ H s) (h : HasX H a D) : ∃ oe od, PySem.W.InstAt s.heap a oe D od := by
  obtain ⟨d, h1, h2⟩ := h
  obtain ⟨⟨oe, vs, e, hz, hd⟩, _⟩ := (show ObjOk X.prog X.w H s.heap a (ExV (.ref D) d a) from I.hok a _ h1)
  obtain ⟨oc, odt, dt, sl⟩ := oe
  obtain ⟨z1, z2⟩ := hz
  dsimp only at z1 z2 hd
  subst z1 z2 hd
  cases odt with
  | none => exact ⟨_, none, e, rfl, rfl, trivial⟩
  | some dd =>
    obtain ⟨fs, hf⟩ := h2 dd rfl
    obtain ⟨o, ho⟩ := objOk_get (I.hok dd _ hf)
    exact ⟨_, some o, e, rfl, rfl, ho⟩
def rIsX (K : PySem.W.Frag) : List V → Hp → VK → Prop := fun xs H Q => rIsi K xs H Q ∨
  ∃ (a D : Addr) (c : V) (u : Value) (b : Bool), xs = [.ref a, c] ∧ HasX H a D ∧ ExcC K D ∧ ClsV c u ∧ PySem.W.kitOne K (.ref D) u = some b ∧ Q (.bl b) H
def rIsXT (K : PySem.W.Frag) : List V → Hp → VK → Prop := fun xs H Q => rIsiT K xs H Q ∨
  ∃ (a D tp : Addr) (cs : List V) (us : List Value) (b : Bool), xs = [.ref a, .ref tp] ∧ HasX H a D ∧ ExcC K D ∧ H tp = some (.tup cs) ∧ Paired ClsV cs us ∧ PySem.W.kitAny K (.ref D) us = some b ∧ Q (.bl b) H
section
variable {X : Cx}
theorem kitx_h {a D : Addr} {oe : Obj} {od : Option Obj} (C : ExcC X.K D) : PySem.W.KitX X.K (.ref a) (.ref D) (fun h => PySem.W.InstAt h a oe D od) := by
  obtain ⟨cd, hc, _⟩ := PySem.W.any_some C.hd
  exact PySem.W.kitx_exc (by rw [hc]; rfl) C.hg C.hk C.hs C.ha C.hn C.ht C.hm
theorem call_isX : CallR X (.builtin "isinstance") (rIsX X.K) := by
  intro pins s σ H xs us Q I r h
  rcases h with h | ⟨a, D, c, u, b, rfl, hx, C, k, e, q⟩
  · exact call_isi pins s σ H xs us Q I r h
  · obtain ⟨u1, u2, rfl, r1, r2⟩ := vals2 r
    cases (show u1 = Value.ref a from r1)
    have e2 := k.eq r2
    subst e2
    obtain ⟨oe, od, J⟩ := inst_x I hx
    exact PySem.W.kia_one (kitx_h C) I.kIn J e (fun z => nomatch z) fun tk => ⟨.bl b, H, I.tok tk, rfl, q⟩
theorem call_isXT : CallR X (.builtin "isinstance") (rIsXT X.K) := by
  intro pins s σ H xs us Q I r h
  rcases h with h | ⟨a, D, tp, cs, ws, b, rfl, hx, C, hT, k, e, q⟩
  · exact call_isiT pins s σ H xs us Q I r h
  · obtain ⟨u1, u2, rfl, r1, r2⟩ := vals2 r
    cases (show u1 = Value.ref a from r1)
    cases (show u2 = Value.ref tp from r2)
    obtain ⟨oe, od, J⟩ := inst_x I hx
    obtain ⟨_, its, rv, o, h1, h2, n, h3⟩ := (show ObjOk X.prog X.w H s.heap tp (.tup cs) from I.hok tp _ hT)
    have e3 := ClsV.all k rv
    subst e3
    obtain ⟨oc, odd, dt, sl⟩ := o
    simp only at h2 h3
    subst h2 h3
    exact PySem.W.kia_tup (kitx_h C) I.kIn J h1 e (fun z => nomatch z) fun tk => ⟨.bl b, H, I.tok tk, rfl, q⟩
/-- one own class against another, against a built-in type -/
theorem kit_ref {K : PySem.W.Frag} {D C : Addr} {b : Bool} (h1 : PySem.W.hasDictIn K C = true) (h2 : PySem.W.typeIn K (.ref C) = some (.type "type")) (h3 : PySem.W.subIn K (.ref C) (.ref C) = some true) (h4 : PySem.W.subIn K (.ref D) (.ref C) = some b) : PySem.W.kitOne K (.ref D) (.ref C) = some b := by
  unfold PySem.W.kitOne
  split
  · rename_i e
    have e2 : D = C := Value.ref.inj (beq_iff_eq.mp e)
    subst e2
    rw [h3] at h4; exact h4
  · obtain ⟨cd, hc, _⟩ := PySem.W.any_some h1
    show (if ((PySem.W.clsIn K C).isSome && PySem.W.typeIn K (.ref C) == some (.type "type")) = true then PySem.W.subIn K (.ref D) (.ref C) else none) = some b
    rw [if_pos (by rw [hc, h2]; rfl), h4]
theorem kit_refT {K : PySem.W.Frag} {D : Addr} {T : String} {b : Bool} (h1 : PySem.W.kitMeta T = true) (h4 : PySem.W.subIn K (.ref D) (.type T) = some b) : PySem.W.kitOne K (.ref D) (.type T) = some b := by
  unfold PySem.W.kitOne
  rw [if_neg (by simp)]
  show (if PySem.W.kitMeta T = true then PySem.W.subIn K (.ref D) (.type T) else none) = some b
  rw [if_pos h1, h4]
theorem kit_tref {K : PySem.W.Frag} {C : Addr} {T : String} {b : Bool} (h1 : PySem.W.hasDictIn K C = true) (h2 : PySem.W.typeIn K (.ref C) = some (.type "type")) (h4 : PySem.W.subIn K (.type T) (.ref C) = some b) : PySem.W.kitOne K (.type T) (.ref C) = some b := by
  unfold PySem.W.kitOne
  rw [if_neg (by simp)]
  obtain ⟨cd, hc, _⟩ := PySem.W.any_some h1
  show (if ((PySem.W.clsIn K C).isSome && PySem.W.typeIn K (.ref C) == some (.type "type")) = true then PySem.W.subIn K (.type T) (.ref C) else none) = some b
  rw [if_pos (by rw [hc, h2]; rfl), h4]
end
/-! ### what isinstance says of a class, of some classes -/
/-- what the class u says: of held exceptions by tab, of plain things nothing -/
structure IsT (K : PySem.W.Frag) (u : Value) (tab : List (Str × Bool)) : Prop where
  ex : ∀ p ∈ tab, clsAt K p.1 ≠ 0 → PySem.W.kitOne K (.ref (clsAt K p.1)) u = some p.2
  pl : ∀ t : PT, PySem.W.kitOne K (.type t.nm) u = some false
theorem ist_pl {K : PySem.W.Frag} {C : Addr} (h1 : PySem.W.hasDictIn K C = true) (h2 : PySem.W.typeIn K (.ref C) = some (.type "type")) (a1 : PySem.W.subIn K (.type "int") (.ref C) = some false) (a2 : PySem.W.subIn K (.type "bool") (.ref C) = some false) (a3 : PySem.W.subIn K (.type "str") (.ref C) = some false) (a4 : PySem.W.subIn K (.type "list") (.ref C) = some false)
    (a5 : PySem.W.subIn K (.type "tuple") (.ref C) = some false) (a6 : PySem.W.subIn K (.type "dict") (.ref C) = some false) (a7 : PySem.W.subIn K (.type "NoneType") (.ref C) = some false) : ∀ t : PT, PySem.W.kitOne K (.type t.nm) (.ref C) = some false := fun t => kit_tref h1 h2 (by
  cases t
  · exact a1
  · exact a2
  · exact a3
  · exact a4
  · exact a5
  · exact a6
  · exact a7)
theorem ist_plV {K : PySem.W.Frag} : ∀ t : PT, PySem.W.kitOne K (.type t.nm) (.type "ValueError") = some false := fun t => kit_ty (by cases t <;> decide +kernel)
/-- the classes that exceptions may have -/
def XCs (K : PySem.W.Frag) (cs : List Str) : Prop := ∀ c ∈ cs, clsAt K c ≠ 0 → ExcC K (clsAt K c)
theorem xcs_nil {K : PySem.W.Frag} : XCs K [] := fun _ h => nomatch h
theorem xcs_cons {K : PySem.W.Frag} {c : Str} {cs : List Str} (h : clsAt K c ≠ 0 → ExcC K (clsAt K c)) (r : XCs K cs) : XCs K (c :: cs) := fun p hp => by
  rcases List.mem_cons.mp hp with rfl | hp
  · exact h
  · exact r p hp
def opIsE (tab : List (Str × Bool)) : List D → Option D
  | [d] => match d with
    | .ev C _ _ => (tab.lookup C).map .bl
    | .ob _ _ _ _ => none
    | _ => some (.bl false)
  | _ => none
section
variable {X : Cx} {B : Bs} {T ts : Tm} {ρ : En} {σ : L2.St} {H : Hp} {F : List Addr} {d : D} {v : V} {G : List Addr} {tab : List (Str × Bool)}
theorem ev_rp {S : Gs} {Hs : Hp} {C : Str} {fs : List Str} {xs : List D} (hs : ∀ b o, Hs b = some o → H b = some o) (r : Rp S H Hs (.ev C fs xs) v G) : ∃ (a : Addr) (d : Option Addr) (fvs : List (Str × V)), v = .ref a ∧ H a = some (ExV (.ref (S.cl C)) d a) ∧ ExD H d fvs ∧ fs = fvs.map (·.1) ∧ (xs.map scV = fvs.map fun p => some p.2) ∧ S.cl C ≠ 0 := by
  cases r with
  | ev h hd r z => exact ⟨_, _, _, rfl, hs _ _ h, exD_mono hd hs, rfl, r, z⟩
theorem has_x {S : Gs} {Hs : Hp} {C : Str} {fs : List Str} {xs : List D} (hs : ∀ b o, Hs b = some o → H b = some o) (r : Rp S H Hs (.ev C fs xs) v G) : ∃ a, v = .ref a ∧ HasX H a (S.cl C) ∧ S.cl C ≠ 0 := by
  obtain ⟨a, d, fvs, rfl, h1, h2, _, _, z⟩ := ev_rp hs r
  exact ⟨a, rfl, ⟨d, h1, fun dd e => by subst e; exact ⟨fvs, h2⟩⟩, z⟩
/-- what the reading of isinstance wants of one thing -/
theorem isE_one {u : Value} {c : V} {y : D} {Q : VK} (k : ClsV c u) (I : IsT X.K u tab) (C : XCs X.K (tab.map (·.1))) (hcl : B.S.cl = clsAt X.K) (h : R B T ρ σ H F) (r : RpB B H F d v G) (e : opIsE tab [d] = some y) (q : ∀ b, y = .bl b → Q (.bl b) H) : rIsX X.K [v, c] H Q := by
  have hs : ∀ b o, hid (B.M ++ F) H b = some o → H b = some o := fun _ _ z => (hid_some z).2
  by_cases nob : isOb d = true
  · cases d <;> simp [isOb] at nob
    · simp [opIsE] at e
    · rename_i C0 fs xs
      simp only [opIsE] at e
      obtain ⟨b, eb, rfl⟩ := Option.map_eq_some_iff.mp e
      obtain ⟨a, rfl, hx, hz⟩ := has_x hs r.1
      have hm := lookup_mem eb
      rw [hcl] at hx hz
      exact .inr ⟨a, _, c, u, b, rfl, hx, C _ (List.mem_map.mpr ⟨_, hm, rfl⟩) hz, k, I.ex _ hm hz, q b rfl⟩
  · have nob : isOb d = false := by simpa using nob
    have : y = .bl false := by
      cases d <;> simp [isOb] at nob <;> simp [opIsE] at e <;> exact e.symm
    exact .inl ⟨v, c, _, u, false, rfl, k, tyD_rp h r nob, I.pl _, q false this⟩
variable {a : Expr} {pa : Opd} {pos p p2 : Pos} {x : Str}
theorem opIsE_S {u : Value} {c : V} (k : ClsV c u) (I : IsT X.K u tab) (C : XCs X.K (tab.map (·.1))) (hcl : B.S.cl = clsAt X.K) : OpS B (rr1 fun v H Q => rIsX X.K [v, c] H Q) (opIsE tab) := by
  intro T ts ρ σ H F ps ds vs Q d h o e q
  match ds, e with
  | [d0], e =>
    obtain ⟨v1, G1, rfl, r1⟩ := o.one h
    exact isE_one k I C hcl h r1 e fun b eb => by
      subst eb
      exact q _ _ _ (h.drop.push (.bl _))
/-- isinstance(x, C), C an own class -/
theorem ev_isE {D : Addr} (I : IsT X.K (.ref D) tab) (C : XCs X.K (tab.map (·.1))) (hcl : B.S.cl = clsAt X.K) (hg : Gl X "isinstance") (hm : X.mg "isinstance" = none) (hg2 : Gl X x) (hm2 : X.mg x = some (.ref D)) (ha : PE X a (tOpd B pa)) (hdb : (x == ("__debug__" : Str)) = false := by decide)
    (h1 : starEach [a, .Name x p2] X.env = (false, eval a X.env) :: starEach [.Name x p2] X.env := by rfl) (h2 : starEach [.Name x p2] X.env = (false, eval (.Name x p2) X.env) :: starEach [] X.env := by rfl) (hpl : (backTo pos (starEach [.Name x p2] X.env)).any (·.1) = false := by rfl) :
    PE X (.Call (.Name "isinstance" p) [a, .Name x p2] [] pos) (cE B (evOp [pa] (opIsE tab))) :=
  (pe_callB call_isX hg hm boot_isinstance (pa_cons ha (pa_cons (pe_glob (v := .ref D) hg2 hm2 rfl hdb) pa_nil h2) h1) (by decide) (by decide) h1 hpl).imp fun σ H Q h => op_run (ps := [pa]) (opIsE_S (.own D) I C hcl) h
/-- isinstance(x, ValueError) -/
theorem ev_isEV (I : IsT X.K (.type "ValueError") tab) (C : XCs X.K (tab.map (·.1))) (hcl : B.S.cl = clsAt X.K) (hg : Gl X "isinstance") (hm : X.mg "isinstance" = none) (hg2 : Gl X "ValueError") (hm2 : X.mg "ValueError" = none) (ha : PE X a (tOpd B pa))
    (h1 : starEach [a, .Name "ValueError" p2] X.env = (false, eval a X.env) :: starEach [.Name "ValueError" p2] X.env := by rfl) (h2 : starEach [.Name "ValueError" p2] X.env = (false, eval (.Name "ValueError" p2) X.env) :: starEach [] X.env := by rfl) (hpl : (backTo pos (starEach [.Name "ValueError" p2] X.env)).any (·.1) = false := by rfl) :
    PE X (.Call (.Name "isinstance" p) [a, .Name "ValueError" p2] [] pos) (cE B (evOp [pa] (opIsE tab))) :=
  (pe_callB call_isX hg hm boot_isinstance (pa_cons ha (pa_cons (pe_bltn (v := .ty "ValueError") hg2 hm2 (by decide +kernel) rfl (by decide) (by decide)) pa_nil h2) h1) (by decide) (by decide) h1 hpl).imp fun σ H Q h => op_run (ps := [pa]) (opIsE_S (.ty _) I C hcl) h
/-! ### isinstance(x, (C1, C2, ..)) -/
structure IsTs (K : PySem.W.Frag) (us : List Value) (tab : List (Str × Bool)) : Prop where
  ex : ∀ p ∈ tab, clsAt K p.1 ≠ 0 → PySem.W.kitAny K (.ref (clsAt K p.1)) us = some p.2
  pl : ∀ t : PT, PySem.W.kitAny K (.type t.nm) us = some false
/-- from the tables of each of the classes -/
theorem ists_nil {K : PySem.W.Frag} {cs : List Str} : IsTs K [] (cs.map fun c => (c, false)) := ⟨fun p hp _ => by
  obtain ⟨c, _, rfl⟩ := List.mem_map.mp hp
  exact kitAny_nil, fun _ => kitAny_nil⟩
theorem ists_cons {K : PySem.W.Frag} {u : Value} {us : List Value} {t1 t2 t3 : List (Str × Bool)} (h : IsT K u t1) (r : IsTs K us t2) (e : (t3.all fun p => match t1.lookup p.1, t2.lookup p.1 with | some a, some b => p.2 == (a || b) | _, _ => false) = true) : IsTs K (u :: us) t3 := by
  refine ⟨fun p hp nz => ?_, fun t => kitAny_cons (h.pl t) (fun _ => r.pl t) fun z => by cases z⟩
  have := List.all_eq_true.mp e p hp
  split at this
  · rename_i a b e1 e2
    have e3 := beq_iff_eq.mp this
    rw [e3]
    have k1 := h.ex _ (lookup_mem e1) nz
    have k2 := r.ex _ (lookup_mem e2) nz
    exact kitAny_cons (b := a) k1 (fun z => by rw [z, Bool.false_or]; exact k2) fun z => by rw [z]; rfl
  · cases this
inductive ClsEs (X : Cx) : List Expr → List V → List Value → Prop
  | nil : ClsEs X [] [] []
  | cons {x : Str} {p : Pos} {D : Addr} {es : List Expr} {cs : List V} {us : List Value} (hg : Gl X x) (hm : X.mg x = some (.ref D)) (r : ClsEs X es cs us) (hdb : (x == ("__debug__" : Str)) = false := by decide)
      (hs : starEach (.Name x p :: es) X.env = (false, eval (.Name x p) X.env) :: starEach es X.env := by rfl) : ClsEs X (.Name x p :: es) (.ref D :: cs) (.ref D :: us)
theorem ClsEs.run {es : List Expr} {cs : List V} {us : List Value} (h : ClsEs X es cs us) : ∃ t, PA X es t ∧ (∀ σ H (Q : List V → Hp → Prop), Q cs H → t σ H Q) ∧ Paired ClsV cs us := by
  induction h with
  | nil => exact ⟨_, pa_nil, fun σ H Q q => q, .nil⟩
  | cons hg hm r hdb hs ih =>
    obtain ⟨t, h1, h2, h3⟩ := ih
    exact ⟨_, pa_cons (pe_glob (v := .ref _) hg hm rfl hdb) h1 hs, fun σ H Q q => h2 σ H _ q, .cons (.own _) h3⟩
theorem ev_isET {es : List Expr} {cs : List V} {us : List Value} {k : Nat} {pt : Pos} (W : ClsEs X es cs us) (I : IsTs X.K us tab) (C : XCs X.K (tab.map (·.1))) (hcl : B.S.cl = clsAt X.K) (hg : Gl X "isinstance") (hm : X.mg "isinstance" = none) (ha : PE X a (tOpd B pa)) (hz : cs.length ≤ sizeLine := by first | decide | simp [PySem.sizeLine_eq])
    (h1 : starEach [a, .Tuple es k pt] X.env = (false, eval a X.env) :: starEach [.Tuple es k pt] X.env := by rfl) (h2 : starEach [.Tuple es k pt] X.env = (false, eval (.Tuple es k pt) X.env) :: starEach [] X.env := by rfl) (hpl : (backTo pos (starEach [.Tuple es k pt] X.env)).any (·.1) = false := by rfl) :
    PE X (.Call (.Name "isinstance" p) [a, .Tuple es k pt] [] pos) (cE B (evOp [pa] (opIsE tab))) := by
  obtain ⟨t, w1, w2, w3⟩ := W.run
  refine (pe_callB call_isXT hg hm boot_isinstance (pa_cons ha (pa_cons (pe_tup w1) pa_nil h2) h1) (by decide) (by decide) h1 hpl).imp fun σ H Q ⟨T, ρ, F, r, q⟩ => ?_
  have z : tOps B [pa] σ H fun vs H' => ∀ v, vs = [v] → t σ H' fun xs H2 => xs.length ≤ sizeLine ∧ ∀ p, H2 p = none → rIsXT X.K [v, .ref p] (upd H2 p (.tup xs)) Q := by
    refine ops_run r (Out.wp_mono (Out.wp_bind q) (fun ds ρ' q vs H' F' ts r' o v ev => by
      refine w2 σ H' _ ⟨hz, fun p hp => ?_⟩
      split at q
      · rename_i y e
        match ds, e with
        | [d0], e =>
          obtain ⟨v1, G1, ev2, r1⟩ := o.one r'
          rw [ev2] at ev
          obtain rfl : v = v1 := by simpa using ev.symm
          have hup : ∀ b u, H' b = some u → upd H' p (.tup cs) b = some u := same_upd hp
          have r2 := r'.grow hup (r'.hl.upd (by intro vs z; rcases z with z | z <;> cases z; exact hz))
          have hs : ∀ b o, hid (B.M ++ F') H' b = some o → H' b = some o := fun _ _ z => (hid_some z).2
          have fin : ∀ b, y = .bl b → Q (.bl b) (upd H' p (.tup cs)) := fun b eb => by subst eb; exact q _ _ _ (r2.drop.push (.bl _))
          by_cases nob : isOb d0 = true
          · cases d0 <;> simp [isOb] at nob
            · simp [opIsE] at e
            · rename_i C0 fs xs
              simp only [opIsE] at e
              obtain ⟨b, eb, rfl⟩ := Option.map_eq_some_iff.mp e
              obtain ⟨a, rfl, ⟨dx, x1, x2⟩, hz⟩ := has_x hs r1.1
              have hm := lookup_mem eb
              rw [hcl] at x1 hz
              exact .inr ⟨a, _, p, cs, us, b, rfl, ⟨dx, hup _ _ x1, fun dd ed => let ⟨fs, z⟩ := x2 dd ed; ⟨fs, hup _ _ z⟩⟩, C _ (List.mem_map.mpr ⟨_, hm, rfl⟩) hz, upd_same, w3, I.ex _ hm hz, fin b rfl⟩
          · have nob : isOb d0 = false := by simpa using nob
            have : y = .bl false := by
              cases d0 <;> simp [isOb] at nob <;> simp [opIsE] at e <;> exact e.symm
            have r1' : RpB B (upd H' p (.tup cs)) F' d0 v G1 := ⟨r1.1.mono (fun b _ => hup b) (hid_mono hup), r1.2⟩
            exact .inl ⟨v, p, cs, _, us, false, rfl, upd_same, w3, tyD_rp r2 r1' nob, I.pl _, fin false this⟩
      · exact q.elim) fun _ _ z => z)
  cases pa with
  | val f =>
    obtain ⟨T, ρ, F, r, q⟩ := z
    exact ⟨T, ρ, F, r, Out.wp_mono q (fun d ρ' q v H' F' r' => q v H' F' r' v rfl) fun _ _ z => z⟩
  | var i =>
    obtain ⟨v, ev, q⟩ := z
    exact ⟨v, ev, q v rfl⟩
/-! ### e.f of a held exception -/
def tXv (K : PySem.W.Frag) (te : TE) (n : Str) : TE := fun σ H Q => te σ H fun x H1 => ∃ (a D dd : Addr) (fs : List (Str × V)) (v : V), x = .ref a ∧ H1 a = some (ExV (.ref D) (some dd) a) ∧ H1 dd = some (.xd fs) ∧ fs.lookup n = some v ∧ XfC K D ∧ PySem.W.findIn K (.ref D) n = some none ∧ Q v H1
theorem pe_xv {e : Expr} {te : TE} {pos : Pos} {n : Str} (he : PE X e te) (hb : attributeBase e n X.env (eval e X.env) = eval e X.env := by rfl) : PE X (.Attribute e n pos) (tXv X.K te n) := by
  constructor
  intro pins s σ H Q I h
  refine attr_of hb (thn (he.run pins s σ H _ I h) fun u s1 ⟨x, H1, I1, rx, a, D, dd, fs, v, ex, h1, h2, h3, C, h5, q⟩ => ?_)
  subst ex
  cases (show u = Value.ref a from rx)
  obtain ⟨⟨oe, vs, e1, hz, hd⟩, _⟩ := (show ObjOk X.prog X.w H1 s1.heap a (ExV (.ref D) (some dd) a) from I1.hok a _ h1)
  obtain ⟨mA, hns, hr⟩ := (show ObjOk X.prog X.w H1 s1.heap dd (.xd fs) from I1.hok dd _ h2)
  obtain ⟨od, ho, hl⟩ := lookIn_ns hns
  obtain ⟨u, hu, ru⟩ := RelO.some_of (v := v) (o := mA n) (by rw [← h3]; exact hr n)
  have J : PySem.W.InstAt s1.heap a oe D (some od) := by
    refine ⟨e1, hz.1, ?_, ?_⟩
    · unfold PySem.W.notCls; rw [hd]; first | done | rfl
    · rw [hz.2]; exact ho
  exact HandSPX.exc_get I1.kIn J C.ga C.gg C.exC (PySem.W.findObj_own C.hdC h5 rfl (by rw [hl, hu])) (handed_of ru) ⟨v, H1, I1.tok _, ru, q⟩
/-- which classes have the field -/
def XFs (K : PySem.W.Frag) (n : Str) (cs : List Str) : Prop := ∀ c ∈ cs, XfC K (clsAt K c) ∧ PySem.W.findIn K (.ref (clsAt K c)) n = some none
theorem xfs_nil {K : PySem.W.Frag} {n : Str} : XFs K n [] := fun _ h => nomatch h
theorem xfs_cons {K : PySem.W.Frag} {n c : Str} {cs : List Str} (h : XfC K (clsAt K c)) (h2 : PySem.W.findIn K (.ref (clsAt K c)) n = some none) (r : XFs K n cs) : XFs K n (c :: cs) := fun p hp => by
  rcases List.mem_cons.mp hp with rfl | hp
  · exact ⟨h, h2⟩
  · exact r p hp
def getF (n : Str) : List Str → List D → Option D
  | f :: fs, x :: xs => if n = f then some x else getF n fs xs
  | _, _ => none
def opFldE (n : Str) (cs : List Str) : List D → Option D
  | [.ev C fs xs] => if C ∈ cs then getF n fs xs else none
  | _ => none
theorem getF_rp {n : Str} : ∀ {fvs : List (Str × V)} {xs : List D} {y : D}, xs.map scV = (fvs.map fun p => some p.2) → getF n (fvs.map (·.1)) xs = some y → ∃ v, fvs.lookup n = some v ∧ scV y = some v
  | [], xs, y, _, e => by cases xs <;> cases e
  | (f, w) :: fvs, [], y, h, e => by cases e
  | (f, w) :: fvs, x :: xs, y, h, e => by
    simp only [List.map_cons, List.cons.injEq] at h
    simp only [List.map_cons, getF] at e
    by_cases c : n = f
    · subst c
      rw [if_pos rfl] at e
      cases e
      exact ⟨w, by simp [List.lookup], h.1⟩
    · rw [if_neg c] at e
      obtain ⟨v, h1, h2⟩ := getF_rp h.2 e
      refine ⟨v, ?_, h2⟩
      have : (n == f) = false := by simpa using c
      rw [List.lookup, this]; exact h1
theorem scV_rp {S : Gs} {Hs : Hp} {y : D} {v : V} (h : scV y = some v) : Rp S H Hs y v [] := by
  cases y <;> simp [scV] at h <;> subst h <;> constructor
theorem opFldE_S {n : Str} {cs : List Str} (C : XFs X.K n cs) (hcl : B.S.cl = clsAt X.K) : OpS B (rr1 fun x H Q => ∃ (a D dd : Addr) (fs : List (Str × V)) (v : V), x = .ref a ∧ H a = some (ExV (.ref D) (some dd) a) ∧ H dd = some (.xd fs) ∧ fs.lookup n = some v ∧ XfC X.K D ∧ PySem.W.findIn X.K (.ref D) n = some none ∧ Q v H) (opFldE n cs) := by
  intro T ts ρ σ H F ps ds vs Q d h o e q
  unfold opFldE at e
  split at e
  · split at e
    · rename_i C0 fs xs hC
      obtain ⟨v1, G1, rfl, r1⟩ := o.one h
      have hs : ∀ b o, hid (B.M ++ F) H b = some o → H b = some o := fun _ _ z => (hid_some z).2
      obtain ⟨a, dx, fvs, rfl, x1, x2, rfl, x3, _⟩ := ev_rp hs r1.1
      obtain ⟨v, l1, l2⟩ := getF_rp x3 e
      obtain ⟨c1, c2⟩ := C _ hC
      cases dx with
      | none =>
        cases x2
        cases l1
      | some dd => exact ⟨a, _, dd, fvs, v, rfl, x1, x2, l1, by rw [hcl]; exact c1, by rw [hcl]; exact c2, q _ _ _ (h.drop.push (scV_rp l2))⟩
    · cases e
  · cases e
theorem ev_fldE {n : Str} {cs : List Str} (C : XFs X.K n cs) (hcl : B.S.cl = clsAt X.K) (ha : PE X a (tOpd B pa)) (hb : attributeBase a n X.env (eval a X.env) = eval a X.env := by rfl) : PE X (.Attribute a n pos) (cE B (evOp [pa] (opFldE n cs))) :=
  (pe_xv ha hb).imp fun σ H Q h => op_run (ps := [pa]) (opFldE_S C hcl) h
end
end Fw

/- part FwI -/
namespace Fw
open PySem PySem.Spec PyProof.Rows L2
/-! ### how long a written number is -/
theorem str_len (s : String) : (Str.ofString s).length = s.length := by
  rw [Str.ofString_eq_toList]
  show (s.toList.map Char.toNat).toArray.size = _
  simp [String.length]
theorem str_app (a b : Str) : (a ++ b).length = a.length + b.length := by
  show (a.cps ++ b.cps).size = _
  simp [Str.length]
theorem toString_len {m : Int} (h0 : 0 ≤ m) (h1 : m < 1000000) : ((toString m : String) : Str).length ≤ 6 := by
  obtain ⟨n, rfl⟩ := Int.eq_ofNat_of_zero_le h0
  show (Str.ofString (toString (n : Int))).length ≤ 6
  rw [str_len]
  show (n.repr).length ≤ 6
  exact (Nat.length_repr_le_iff (by decide)).mpr (by omega)
theorem log_small {m : Int} (h0 : 0 ≤ m) (h1 : m < 1000000) : m.natAbs.log2 < 1920 := by
  have : m.natAbs < 2 ^ 20 := by omega
  by_cases hz : m.natAbs = 0
  · rw [hz]; decide
  · have := (Nat.log2_lt hz).mpr this
    omega
/-! ### the promise of an exception's __init__: its fields, the last one first -/
def spIni (K : PySem.W.Frag) (x : Str) (n : Nat) (fl : List V → Option (List (Str × V))) : Sp := fun vs H Q _ => vs.length = n + 1 ∧ ∃ (a : Addr) (ws : List V) (fs : List (Str × V)), vs = .ref a :: ws ∧ H a = some (exo a (clsAt K x) none) ∧ fl ws = some fs ∧
  ∀ (dx : Addr) (H2 : Hp), H dx = none → dx ≠ a → H2 a = some (exo a (clsAt K x) (some dx)) → H2 dx = some (exd dx fs) → (∀ b, b ≠ a → b ≠ dx → H2 b = H b) → Q .non H2
structure InitOk (P : Program) (w : World) (K : PySem.W.Frag) (mg : Str → Option Value) (base : Heap) (k : Nat) (x : Str) (n : Nat) (fl : List V → Option (List (Str × V))) : Prop where
  nz : clsAt K x ≠ 0
  g : mg x = some (.ref (clsAt K x))
  O : OexC K (clsAt K x)
  ini : ∃ (fI : Addr) (fd : FuncData) (ps : List Str), PySem.W.findIn K (.ref (clsAt K x)) "__init__" = some (some (.ref fI)) ∧ PySem.W.typeIn K (.ref fI) = some (.type "function") ∧ FnOk P w K mg base (L2.CX P w) k fI fd ps (spIni K x n fl) ∧ Binds K fd ps []
def flD' (fl : List V → Option (List (Str × V))) (fd : List D → Option (List (Str × D))) : Prop := ∀ ds vs fs, ds.map scV = vs.map some → fd ds = some fs → ∃ fvs, fl vs = some fvs ∧ fvs.map (·.1) = fs.map (·.1) ∧ (fs.map fun p => scV p.2) = fvs.map fun p => some p.2
/-- raise C(e, ..) -/
def sRaiseX (C : Str) (fd : List D → Option (List (Str × D))) (ps : List Opd) : En → Out Fl := fun ρ => (evOps ps ρ).bind fun ds ρ' => if (ds.map scV).all (·.isSome) = true then match fd ds with
  | some fs => .ex ⟨C, fs, []⟩ ρ'
  | none => .no
  else .no
section
variable {X : Cx} {B : Bs} {T ts : Tm} {ρ : En} {σ : L2.St} {H : Hp} {F : List Addr}
theorem scV_eq {S : Gs} {Hs : Hp} {d : D} {v w : V} {G : List Addr} (r : Rp S H Hs d v G) (e : scV d = some w) : w = v := by
  cases d <;> simp [scV] at e <;> subst e <;> cases r <;> rfl
theorem OpV.scal {ps : List Opd} {ds : List D} {vs : List V} (h : R B (T ++ ts) ρ σ H F) (o : OpV ρ σ ps ts ds vs) (e : (ds.map scV).all (·.isSome) = true) : ds.map scV = vs.map some := by
  apply List.ext_getElem?
  intro k
  rw [List.getElem?_map, List.getElem?_map]
  cases e1 : ds[k]? with
  | none =>
    have : vs[k]? = none := by
      rw [List.getElem?_eq_none_iff] at e1 ⊢
      rw [← o.len]; exact e1
    rw [this]; rfl
  | some d =>
    obtain ⟨v, G, hv, r⟩ := o.at h k d e1
    rw [hv]
    have := List.all_eq_true.mp e (scV d) (List.mem_map.mpr ⟨d, List.mem_of_getElem? e1, rfl⟩)
    obtain ⟨w, hw⟩ := Option.isSome_iff_exists.mp this
    simp only [Option.map_some, hw]
    rw [scV_eq r.1 hw]
theorem es_raiseX {C : Str} {n k : Nat} {fl : List V → Option (List (Str × V))} {fd : List D → Option (List (Str × D))} {ps : List Opd} {e : Expr} {es : List Expr} {p pos pos2 : Pos} (I : InitOk X.prog X.w X.K X.mg X.base k C n fl) (hfl : flD' fl fd) (hr : Room (k + 1) X.A) (hcl : B.S.cl = clsAt X.K) (tk : Takes X B.W) (hc : X.calm = true) (hg : Gl X C)
    (ha : EA X B (e :: es) ps) (hn : ps.length = n := by rfl) (hz : ps.length ≤ 1000 := by decide) (hdb : (C == ("__debug__" : Str)) = false := by decide) (he : starEach (e :: es) X.env = (false, eval e X.env) :: starEach es X.env := by rfl) (hpl : (backTo pos (starEach es X.env)).any (·.1) = false := by rfl) :
    PS X (.Raise (some (.Call (.Name C p) (e :: es) [] pos)) none pos2) (cS B (sRaiseX C fd ps)) := by
  obtain ⟨fI, fdI, pn, i1, i2, G, hb⟩ := I.ini
  refine (ps_raise hc tk (pmk_oex (ta := tOps B ps) I.O i1 i2 G hr hb .nil (fun _ _ _ _ _ _ _ c => ?_) hg I.g ha.run hdb he hpl)).imp fun D' σ H ⟨T, ρ, F, r, q⟩ => ?_
  · obtain ⟨_, _, _, _, _, _, _, _, _, _, _, _, z⟩ := c
    exact z.elim
  · refine ops_run r (Out.wp_mono (Out.wp_bind q) (fun ds ρ' q vs H' F' ts r' o => ?_) fun _ _ z => exS z)
    split at q
    · rename_i hsc
      have hscal := o.scal r' hsc
      split at q
      · rename_i fs ef
        obtain ⟨fvs, f1, f2, f3⟩ := hfl _ _ _ hscal ef
        have hlen : vs.length = n := by rw [← o.len, ops_len o, hn]
        refine ⟨by rw [hlen, ← hn]; exact hz, fun a ha => ?_⟩
        rw [List.append_nil]
        refine ⟨by simp [hlen], a, vs, fvs, rfl, upd_same, f1, fun dx H2 hdx ne h1 h2 h3 => ?_⟩
        have hdx0 : H' dx = none := by rw [upd_ne ne] at hdx; exact hdx
        refine ⟨rfl, dx, fvs, h1, h2, hdx0, ?_⟩
        have up : ∀ b u, H' b = some u → upd (del H2 a) dx (.xd fvs) b = some u := fun b u z => by
          have n1 : b ≠ dx := ne_of_none z hdx0
          have n2 : b ≠ a := ne_of_none z ha
          rw [upd_ne n1, del_ne n2, h3 b n2 n1, upd_ne n2]; exact z
        have hl : HLen (upd (del H2 a) dx (.xd fvs)) := by
          refine HLen.upd (fun b us z => ?_) (by intro vs z; rcases z with z | z <;> cases z)
          by_cases n2 : b = a
          · subst n2
            rw [del_same] at z
            rcases z with z | z <;> cases z
          · rw [del_ne n2] at z
            by_cases n1 : b = dx
            · subst n1
              rw [h2] at z
              rcases z with z | z <;> cases (show HO.ext _ = _ from Option.some.inj z)
            · rw [h3 b n2 n1, upd_ne n2] at z
              exact r'.hl b us z
        have r2 := r'.grow up hl
        have hM : dx ∉ B.M ++ F' := fun z => by
          rcases List.mem_append.mp z with z | z
          · exact r'.md dx z hdx0
          · exact r'.own dx z hdx0
        refine q (.ref (clsAt X.K C)) (some dx) σ _ F' ⟨by rw [hcl], by show B.S.cl C ≠ 0; rw [hcl]; exact I.nz, fvs, hid_of upd_same hM, f2, f3⟩ r2.drop
      · exact q.elim
    · exact q.elim
end
/-! ### Barred(move, word), BadRow(row) -/
def flBar : List V → Option (List (Str × V))
  | [.int m, .str w] => if 0 ≤ m ∧ m < 1000000 ∧ w.length ≤ 1000 then some [("word", .str w), ("move", .int m)] else none
  | _ => none
def fdBar : List D → Option (List (Str × D))
  | [.int m, .str w] => if 0 ≤ m ∧ m < 1000000 ∧ w.length ≤ 1000 then some [("word", .str w), ("move", .int m)] else none
  | _ => none
def flRow : List V → Option (List (Str × V))
  | [.int m] => if 0 ≤ m ∧ m < 1000000 then some [("row", .int m)] else none
  | _ => none
def fdRow : List D → Option (List (Str × D))
  | [.int m] => if 0 ≤ m ∧ m < 1000000 then some [("row", .int m)] else none
  | _ => none
theorem fl_bar : flD' flBar fdBar := fun ds vs fs e h => by
  unfold fdBar at h
  split at h
  · split at h
    · rename_i m w c
      cases h
      match vs, e with
      | [v1, v2], e =>
        simp [scV] at e
        obtain ⟨rfl, rfl⟩ := e
        exact ⟨_, if_pos c, rfl, rfl⟩
    · cases h
  · cases h
theorem fl_row : flD' flRow fdRow := fun ds vs fs e h => by
  unfold fdRow at h
  split at h
  · split at h
    · rename_i m c
      cases h
      match vs, e with
      | [v1], e =>
        simp [scV] at e
        subst e
        exact ⟨_, if_pos c, rfl, rfl⟩
    · cases h
  · cases h
/-! ### the classes of refusals -/
def xNames : List Str := ["Barred", "NoMove", "NoTree", "TooMany", "BadRow"]
/-- which of them a class is above: all, or itself alone -/
def xAll (b : Bool) : List (Str × Bool) := [("Barred", b), ("NoMove", b), ("NoTree", b), ("TooMany", b), ("BadRow", b)]
def tx_RoomError : List (Str × Bool) := xAll true
def te_ValueError : List (Str × Bool) := xAll true
def te_RoomError : List (Str × Bool) := xAll true
def tx_Barred : List (Str × Bool) := [("Barred", true), ("NoMove", false), ("NoTree", false), ("TooMany", false), ("BadRow", false)]
def tx_NoMove : List (Str × Bool) := [("Barred", false), ("NoMove", true), ("NoTree", false), ("TooMany", false), ("BadRow", false)]
def tx_NoTree : List (Str × Bool) := [("Barred", false), ("NoMove", false), ("NoTree", true), ("TooMany", false), ("BadRow", false)]
def tx_TooMany : List (Str × Bool) := [("Barred", false), ("NoMove", false), ("NoTree", false), ("TooMany", true), ("BadRow", false)]
def tx_BadRow : List (Str × Bool) := [("Barred", false), ("NoMove", false), ("NoTree", false), ("TooMany", false), ("BadRow", true)]
def te_Barred := tx_Barred
def te_NoMove := tx_NoMove
def te_NoTree := tx_NoTree
def te_TooMany := tx_TooMany
def te_BadRow := tx_BadRow
def te_BadRow_Barred_NoMove_NoTree : List (Str × Bool) := [("Barred", true), ("NoMove", true), ("NoTree", true), ("TooMany", false), ("BadRow", true)]
def te_BadRow_Barred_NoMove_TooMany : List (Str × Bool) := [("Barred", true), ("NoMove", true), ("NoTree", false), ("TooMany", true), ("BadRow", true)]
def te_BadRow_Barred_NoTree_TooMany : List (Str × Bool) := [("Barred", true), ("NoMove", false), ("NoTree", true), ("TooMany", true), ("BadRow", true)]
def te_BadRow_NoMove_NoTree_TooMany : List (Str × Bool) := [("Barred", false), ("NoMove", true), ("NoTree", true), ("TooMany", true), ("BadRow", true)]
def te_Barred_NoMove_NoTree_TooMany : List (Str × Bool) := [("Barred", true), ("NoMove", true), ("NoTree", true), ("TooMany", true), ("BadRow", false)]
theorem clsAt_eq {K : PySem.W.Frag} {x : Str} {C : Addr} (h : PySem.W.nsIn K mainGlobals x = some (some (.ref C))) : clsAt K x = C := by unfold clsAt; rw [h]
theorem clsAt_none {K : PySem.W.Frag} {x : Str} (h : PySem.W.nsIn K mainGlobals x = some none) : clsAt K x = 0 := by unfold clsAt; rw [h]
theorem ext_no {K : PySem.W.Frag} {c : Value} {e : Str} {b : Bool} {tab : List (Str × Bool)} (h : PySem.W.nsIn K mainGlobals e = some none) (r : ExT K c tab) : ExT K c ((e, b) :: tab) := ext_cons (fun z => absurd (clsAt_none h) z) r
theorem ist_nil {K : PySem.W.Frag} {u : Value} (h : ∀ t : PT, PySem.W.kitOne K (.type t.nm) u = some false) : IsT K u [] := ⟨(fun _ h => nomatch h), h⟩
theorem ist_cons {K : PySem.W.Frag} {u : Value} {e : Str} {b : Bool} {tab : List (Str × Bool)} (h : clsAt K e ≠ 0 → PySem.W.kitOne K (.ref (clsAt K e)) u = some b) (r : IsT K u tab) : IsT K u ((e, b) :: tab) := by
  refine ⟨fun p hp => ?_, r.pl⟩
  rcases List.mem_cons.mp hp with rfl | hp
  · exact h
  · exact r.ex p hp
theorem ist_no {K : PySem.W.Frag} {u : Value} {e : Str} {b : Bool} {tab : List (Str × Bool)} (h : PySem.W.nsIn K mainGlobals e = some none) (r : IsT K u tab) : IsT K u ((e, b) :: tab) := ist_cons (fun z => absurd (clsAt_none h) z) r
theorem xcs_no {K : PySem.W.Frag} {c : Str} {cs : List Str} (h : PySem.W.nsIn K mainGlobals c = some none) (r : XCs K cs) : XCs K (c :: cs) := xcs_cons (fun z => absurd (clsAt_none h) z) r
/-- what the written part says of an exception's class -/
structure XF (K : PySem.W.Frag) (C : Addr) : Prop where
  nz : (C == 0) = false
  k : PySem.W.keepIn K (.ref C) = true
  b : PySem.W.subIn K (.ref C) (.type "BaseException") = some true
  t : PySem.W.typeIn K (.ref C) = some (.type "type")
  hd : PySem.W.hasDictIn K C = true
  hg : PySem.W.findIn K (.ref C) "__getattribute__" = some (some (.builtin "BaseException.__getattribute__"))
  hk : PySem.W.findIn K (.ref C) "__getattr__" = some none
  ha : PySem.W.findIn K (.ref C) "__class__" = some (some (.builtin "object.__class__"))
  hm : PySem.W.mroIn K C (.type "object") = some true
  ss : PySem.W.subIn K (.ref C) (.ref C) = some true
  sv : PySem.W.subIn K (.ref C) (.type "ValueError") = some true
theorem XF.ne {K : PySem.W.Frag} {C : Addr} (h : XF K C) : C ≠ 0 := by simpa using h.nz
theorem XF.excC {K : PySem.W.Frag} {C : Addr} (h : XF K C) (hn : PySem.W.specialIn K (.builtin "object.__class__") "__get__" = some (some (.builtin "getset_descriptor.__get__"))) (ht : PySem.W.takesIn K (.builtin "object.__class__") = some true) : ExcC K C := ⟨h.hg, h.hk, h.b, h.hd, h.ha, hn, ht, h.hm⟩
theorem XF.xfC {K : PySem.W.Frag} {C : Addr} (h : XF K C) : XfC K C := ⟨h.hg, h.hk, h.b, h.hd⟩
end Fw

/- part FwL -/
namespace Fw
open PySem L2
/-! ### meanings of raise and try, run by simp -/
def tkK (tab : List (Str × Bool)) (i j : Nat) : Out Fl → Out Fl
  | .ok fl ρ => .ok fl ρ
  | .ex x ρ' => match tab.lookup x.cls with
    | some true => .ok .nx { ρ' with vs := (ρ'.vs.set j (.sh (.ev x.cls (x.fs.map (·.1)) (x.fs.map (·.2))))).set i .no }
    | some false => .ex x ρ'
    | none => .no
  | .no => .no
@[simp] theorem sTryKeep_eq (tab : List (Str × Bool)) (i j : Nat) (b : En → Out Fl) (ρ : En) : sTryKeep tab i j b ρ = tkK tab i j (b ρ) := by
  rw [sTryKeep]; cases b ρ <;> rfl
@[simp] theorem tkK_ok (tab : List (Str × Bool)) (i j : Nat) (fl : Fl) (ρ : En) : tkK tab i j (.ok fl ρ) = .ok fl ρ := rfl
theorem tkK_ex {tab : List (Str × Bool)} {i j : Nat} {x : Exc} {vs : List Sv} {st : RSt} (h : tab.lookup x.cls = some true) : tkK tab i j (.ex x ⟨vs, st⟩) = .ok .nx ⟨(vs.set j (.sh (.ev x.cls (x.fs.map (·.1)) (x.fs.map (·.2))))).set i .no, st⟩ := by
  rw [tkK]; simp only [h]
def tyK (tab : List (Str × Bool)) (s : En → Out Fl) : Out Fl → Out Fl
  | .ok fl ρ => .ok fl ρ
  | .ex x ρ' => match tab.lookup x.cls with
    | some true => noEx (s ρ')
    | some false => .ex x ρ'
    | none => .no
  | .no => .no
@[simp] theorem sTry_eq (tab : List (Str × Bool)) (b s : En → Out Fl) (ρ : En) : sTry tab b s ρ = tyK tab s (b ρ) := by
  rw [sTry]; cases b ρ <;> rfl
@[simp] theorem tyK_ok (tab : List (Str × Bool)) (s : En → Out Fl) (fl : Fl) (ρ : En) : tyK tab s (.ok fl ρ) = .ok fl ρ := rfl
theorem tyK_ex {tab : List (Str × Bool)} {s : En → Out Fl} {x : Exc} {ρ : En} (h : tab.lookup x.cls = some true) : tyK tab s (.ex x ρ) = noEx (s ρ) := by
  rw [tyK]; simp only [h]
@[simp] theorem sRaise0_eq (C : Str) (ρ : En) : sRaise0 C ρ = .ex ⟨C, [], []⟩ ρ := rfl
def rxK (C : Str) (fd : List D → Option (List (Str × D))) : Out (List D) → Out Fl
  | .ok ds ρ' => if (ds.map scV).all (·.isSome) = true then match fd ds with
    | some fs => .ex ⟨C, fs, []⟩ ρ'
    | none => .no
    else .no
  | .ex x ρ => .ex x ρ
  | .no => .no
@[simp] theorem sRaiseX_eq (C : Str) (fd : List D → Option (List (Str × D))) (ps : List Opd) (ρ : En) : sRaiseX C fd ps ρ = rxK C fd (evOps ps ρ) := by
  rw [sRaiseX]; cases evOps ps ρ <;> rfl
/-- Barred(m, w), and the same held -/
def exB (m : Int) (w : Str) : Exc := ⟨"Barred", [("word", .str w), ("move", .int m)], []⟩
def evB (m : Int) (w : Str) : D := .ev "Barred" ["word", "move"] [.str w, .int m]
theorem rxK_ok {C : Str} {fd : List D → Option (List (Str × D))} {ds : List D} {ρ : En} {fs : List (Str × D)} (h1 : (ds.map scV).all (·.isSome) = true) (h2 : fd ds = some fs) : rxK C fd (.ok ds ρ) = .ex ⟨C, fs, []⟩ ρ := by
  rw [rxK, if_pos h1, h2]
theorem rx_bar {m : Int} {w : Str} {ρ : En} (h0 : 0 ≤ m) (h1 : m < 1000000) (h2 : w.length ≤ 1000) : rxK "Barred" fdBar (.ok [.int m, .str w] ρ) = .ex (exB m w) ρ :=
  rxK_ok rfl (if_pos ⟨h0, h1, h2⟩)
theorem rx_row {m : Int} {ρ : En} (h0 : 0 ≤ m) (h1 : m < 1000000) : rxK "BadRow" fdRow (.ok [.int m] ρ) = .ex ⟨"BadRow", [("row", .int m)], []⟩ ρ :=
  rxK_ok rfl (if_pos ⟨h0, h1⟩)
@[simp] theorem opIsE_ev (tab : List (Str × Bool)) (C : Str) (fs : List Str) (xs : List D) : opIsE tab [.ev C fs xs] = (tab.lookup C).map .bl := rfl
@[simp] theorem opIsE_non (tab : List (Str × Bool)) : opIsE tab [.non] = some (.bl false) := rfl
@[simp] theorem opIsE_int (tab : List (Str × Bool)) (i : Int) : opIsE tab [.int i] = some (.bl false) := rfl
@[simp] theorem opIsE_bl (tab : List (Str × Bool)) (i : Bool) : opIsE tab [.bl i] = some (.bl false) := rfl
@[simp] theorem opIsE_str (tab : List (Str × Bool)) (i : Str) : opIsE tab [.str i] = some (.bl false) := rfl
@[simp] theorem opIsE_lst (tab : List (Str × Bool)) (o : Bool) (xs : List D) : opIsE tab [.lst o xs] = some (.bl false) := rfl
@[simp] theorem opIsE_tup (tab : List (Str × Bool)) (xs : List D) : opIsE tab [.tup xs] = some (.bl false) := rfl
@[simp] theorem opIsN_ev (C : Str) (fs : List Str) (xs : List D) : opIsN [.ev C fs xs, .non] = some (.bl false) := rfl
@[simp] theorem opNoN_ev (C : Str) (fs : List Str) (xs : List D) : opNoN [.ev C fs xs, .non] = some (.bl true) := rfl
@[simp] theorem fz_ev (C : Str) (fs : List Str) (xs : List D) : fz (.ev C fs xs) = .ev C fs xs := by unfold fz; simp
@[simp] theorem fld_move (w m : D) : opFldE "move" ["Barred"] [.ev "Barred" ["word", "move"] [w, m]] = some m := rfl
@[simp] theorem fld_word (w m : D) : opFldE "word" ["Barred"] [.ev "Barred" ["word", "move"] [w, m]] = some w := rfl
@[simp] theorem fld_row (m : D) : opFldE "row" ["BadRow"] [.ev "BadRow" ["row"] [m]] = some m := rfl
/-! the tables -/
@[simp] theorem tx_RoomError_Barred : List.lookup ("Barred" : Str) tx_RoomError = some true := rfl
@[simp] theorem tx_RoomError_NoMove : List.lookup ("NoMove" : Str) tx_RoomError = some true := rfl
@[simp] theorem tx_RoomError_NoTree : List.lookup ("NoTree" : Str) tx_RoomError = some true := rfl
@[simp] theorem tx_RoomError_TooMany : List.lookup ("TooMany" : Str) tx_RoomError = some true := rfl
@[simp] theorem tx_RoomError_BadRow : List.lookup ("BadRow" : Str) tx_RoomError = some true := rfl
@[simp] theorem te_ValueError_Barred : List.lookup ("Barred" : Str) te_ValueError = some true := rfl
@[simp] theorem te_ValueError_NoMove : List.lookup ("NoMove" : Str) te_ValueError = some true := rfl
@[simp] theorem te_ValueError_NoTree : List.lookup ("NoTree" : Str) te_ValueError = some true := rfl
@[simp] theorem te_ValueError_TooMany : List.lookup ("TooMany" : Str) te_ValueError = some true := rfl
@[simp] theorem te_ValueError_BadRow : List.lookup ("BadRow" : Str) te_ValueError = some true := rfl
@[simp] theorem te_RoomError_Barred : List.lookup ("Barred" : Str) te_RoomError = some true := rfl
@[simp] theorem te_RoomError_NoMove : List.lookup ("NoMove" : Str) te_RoomError = some true := rfl
@[simp] theorem te_RoomError_NoTree : List.lookup ("NoTree" : Str) te_RoomError = some true := rfl
@[simp] theorem te_RoomError_TooMany : List.lookup ("TooMany" : Str) te_RoomError = some true := rfl
@[simp] theorem te_RoomError_BadRow : List.lookup ("BadRow" : Str) te_RoomError = some true := rfl
@[simp] theorem tx_Barred_Barred : List.lookup ("Barred" : Str) tx_Barred = some true := rfl
@[simp] theorem tx_Barred_NoMove : List.lookup ("NoMove" : Str) tx_Barred = some false := rfl
@[simp] theorem tx_Barred_NoTree : List.lookup ("NoTree" : Str) tx_Barred = some false := rfl
@[simp] theorem tx_Barred_TooMany : List.lookup ("TooMany" : Str) tx_Barred = some false := rfl
@[simp] theorem tx_Barred_BadRow : List.lookup ("BadRow" : Str) tx_Barred = some false := rfl
@[simp] theorem te_Barred_Barred : List.lookup ("Barred" : Str) te_Barred = some true := rfl
@[simp] theorem te_Barred_NoMove : List.lookup ("NoMove" : Str) te_Barred = some false := rfl
@[simp] theorem te_Barred_NoTree : List.lookup ("NoTree" : Str) te_Barred = some false := rfl
@[simp] theorem te_Barred_TooMany : List.lookup ("TooMany" : Str) te_Barred = some false := rfl
@[simp] theorem te_Barred_BadRow : List.lookup ("BadRow" : Str) te_Barred = some false := rfl
@[simp] theorem tx_NoMove_Barred : List.lookup ("Barred" : Str) tx_NoMove = some false := rfl
@[simp] theorem tx_NoMove_NoMove : List.lookup ("NoMove" : Str) tx_NoMove = some true := rfl
@[simp] theorem tx_NoMove_NoTree : List.lookup ("NoTree" : Str) tx_NoMove = some false := rfl
@[simp] theorem tx_NoMove_TooMany : List.lookup ("TooMany" : Str) tx_NoMove = some false := rfl
@[simp] theorem tx_NoMove_BadRow : List.lookup ("BadRow" : Str) tx_NoMove = some false := rfl
@[simp] theorem te_NoMove_Barred : List.lookup ("Barred" : Str) te_NoMove = some false := rfl
@[simp] theorem te_NoMove_NoMove : List.lookup ("NoMove" : Str) te_NoMove = some true := rfl
@[simp] theorem te_NoMove_NoTree : List.lookup ("NoTree" : Str) te_NoMove = some false := rfl
@[simp] theorem te_NoMove_TooMany : List.lookup ("TooMany" : Str) te_NoMove = some false := rfl
@[simp] theorem te_NoMove_BadRow : List.lookup ("BadRow" : Str) te_NoMove = some false := rfl
@[simp] theorem tx_NoTree_Barred : List.lookup ("Barred" : Str) tx_NoTree = some false := rfl
@[simp] theorem tx_NoTree_NoMove : List.lookup ("NoMove" : Str) tx_NoTree = some false := rfl
@[simp] theorem tx_NoTree_NoTree : List.lookup ("NoTree" : Str) tx_NoTree = some true := rfl
@[simp] theorem tx_NoTree_TooMany : List.lookup ("TooMany" : Str) tx_NoTree = some false := rfl
@[simp] theorem tx_NoTree_BadRow : List.lookup ("BadRow" : Str) tx_NoTree = some false := rfl
@[simp] theorem te_NoTree_Barred : List.lookup ("Barred" : Str) te_NoTree = some false := rfl
@[simp] theorem te_NoTree_NoMove : List.lookup ("NoMove" : Str) te_NoTree = some false := rfl
@[simp] theorem te_NoTree_NoTree : List.lookup ("NoTree" : Str) te_NoTree = some true := rfl
@[simp] theorem te_NoTree_TooMany : List.lookup ("TooMany" : Str) te_NoTree = some false := rfl
@[simp] theorem te_NoTree_BadRow : List.lookup ("BadRow" : Str) te_NoTree = some false := rfl
@[simp] theorem tx_TooMany_Barred : List.lookup ("Barred" : Str) tx_TooMany = some false := rfl
@[simp] theorem tx_TooMany_NoMove : List.lookup ("NoMove" : Str) tx_TooMany = some false := rfl
@[simp] theorem tx_TooMany_NoTree : List.lookup ("NoTree" : Str) tx_TooMany = some false := rfl
@[simp] theorem tx_TooMany_TooMany : List.lookup ("TooMany" : Str) tx_TooMany = some true := rfl
@[simp] theorem tx_TooMany_BadRow : List.lookup ("BadRow" : Str) tx_TooMany = some false := rfl
@[simp] theorem te_TooMany_Barred : List.lookup ("Barred" : Str) te_TooMany = some false := rfl
@[simp] theorem te_TooMany_NoMove : List.lookup ("NoMove" : Str) te_TooMany = some false := rfl
@[simp] theorem te_TooMany_NoTree : List.lookup ("NoTree" : Str) te_TooMany = some false := rfl
@[simp] theorem te_TooMany_TooMany : List.lookup ("TooMany" : Str) te_TooMany = some true := rfl
@[simp] theorem te_TooMany_BadRow : List.lookup ("BadRow" : Str) te_TooMany = some false := rfl
@[simp] theorem tx_BadRow_Barred : List.lookup ("Barred" : Str) tx_BadRow = some false := rfl
@[simp] theorem tx_BadRow_NoMove : List.lookup ("NoMove" : Str) tx_BadRow = some false := rfl
@[simp] theorem tx_BadRow_NoTree : List.lookup ("NoTree" : Str) tx_BadRow = some false := rfl
@[simp] theorem tx_BadRow_TooMany : List.lookup ("TooMany" : Str) tx_BadRow = some false := rfl
@[simp] theorem tx_BadRow_BadRow : List.lookup ("BadRow" : Str) tx_BadRow = some true := rfl
@[simp] theorem te_BadRow_Barred : List.lookup ("Barred" : Str) te_BadRow = some false := rfl
@[simp] theorem te_BadRow_NoMove : List.lookup ("NoMove" : Str) te_BadRow = some false := rfl
@[simp] theorem te_BadRow_NoTree : List.lookup ("NoTree" : Str) te_BadRow = some false := rfl
@[simp] theorem te_BadRow_TooMany : List.lookup ("TooMany" : Str) te_BadRow = some false := rfl
@[simp] theorem te_BadRow_BadRow : List.lookup ("BadRow" : Str) te_BadRow = some true := rfl
@[simp] theorem te_BadRow_Barred_NoMove_NoTree_Barred : List.lookup ("Barred" : Str) te_BadRow_Barred_NoMove_NoTree = some true := rfl
@[simp] theorem te_BadRow_Barred_NoMove_NoTree_NoMove : List.lookup ("NoMove" : Str) te_BadRow_Barred_NoMove_NoTree = some true := rfl
@[simp] theorem te_BadRow_Barred_NoMove_NoTree_NoTree : List.lookup ("NoTree" : Str) te_BadRow_Barred_NoMove_NoTree = some true := rfl
@[simp] theorem te_BadRow_Barred_NoMove_NoTree_TooMany : List.lookup ("TooMany" : Str) te_BadRow_Barred_NoMove_NoTree = some false := rfl
@[simp] theorem te_BadRow_Barred_NoMove_NoTree_BadRow : List.lookup ("BadRow" : Str) te_BadRow_Barred_NoMove_NoTree = some true := rfl
@[simp] theorem te_BadRow_Barred_NoMove_TooMany_Barred : List.lookup ("Barred" : Str) te_BadRow_Barred_NoMove_TooMany = some true := rfl
@[simp] theorem te_BadRow_Barred_NoMove_TooMany_NoMove : List.lookup ("NoMove" : Str) te_BadRow_Barred_NoMove_TooMany = some true := rfl
@[simp] theorem te_BadRow_Barred_NoMove_TooMany_NoTree : List.lookup ("NoTree" : Str) te_BadRow_Barred_NoMove_TooMany = some false := rfl
@[simp] theorem te_BadRow_Barred_NoMove_TooMany_TooMany : List.lookup ("TooMany" : Str) te_BadRow_Barred_NoMove_TooMany = some true := rfl
@[simp] theorem te_BadRow_Barred_NoMove_TooMany_BadRow : List.lookup ("BadRow" : Str) te_BadRow_Barred_NoMove_TooMany = some true := rfl
@[simp] theorem te_BadRow_Barred_NoTree_TooMany_Barred : List.lookup ("Barred" : Str) te_BadRow_Barred_NoTree_TooMany = some true := rfl
@[simp] theorem te_BadRow_Barred_NoTree_TooMany_NoMove : List.lookup ("NoMove" : Str) te_BadRow_Barred_NoTree_TooMany = some false := rfl
@[simp] theorem te_BadRow_Barred_NoTree_TooMany_NoTree : List.lookup ("NoTree" : Str) te_BadRow_Barred_NoTree_TooMany = some true := rfl
@[simp] theorem te_BadRow_Barred_NoTree_TooMany_TooMany : List.lookup ("TooMany" : Str) te_BadRow_Barred_NoTree_TooMany = some true := rfl
@[simp] theorem te_BadRow_Barred_NoTree_TooMany_BadRow : List.lookup ("BadRow" : Str) te_BadRow_Barred_NoTree_TooMany = some true := rfl
@[simp] theorem te_BadRow_NoMove_NoTree_TooMany_Barred : List.lookup ("Barred" : Str) te_BadRow_NoMove_NoTree_TooMany = some false := rfl
@[simp] theorem te_BadRow_NoMove_NoTree_TooMany_NoMove : List.lookup ("NoMove" : Str) te_BadRow_NoMove_NoTree_TooMany = some true := rfl
@[simp] theorem te_BadRow_NoMove_NoTree_TooMany_NoTree : List.lookup ("NoTree" : Str) te_BadRow_NoMove_NoTree_TooMany = some true := rfl
@[simp] theorem te_BadRow_NoMove_NoTree_TooMany_TooMany : List.lookup ("TooMany" : Str) te_BadRow_NoMove_NoTree_TooMany = some true := rfl
@[simp] theorem te_BadRow_NoMove_NoTree_TooMany_BadRow : List.lookup ("BadRow" : Str) te_BadRow_NoMove_NoTree_TooMany = some true := rfl
@[simp] theorem te_Barred_NoMove_NoTree_TooMany_Barred : List.lookup ("Barred" : Str) te_Barred_NoMove_NoTree_TooMany = some true := rfl
@[simp] theorem te_Barred_NoMove_NoTree_TooMany_NoMove : List.lookup ("NoMove" : Str) te_Barred_NoMove_NoTree_TooMany = some true := rfl
@[simp] theorem te_Barred_NoMove_NoTree_TooMany_NoTree : List.lookup ("NoTree" : Str) te_Barred_NoMove_NoTree_TooMany = some true := rfl
@[simp] theorem te_Barred_NoMove_NoTree_TooMany_TooMany : List.lookup ("TooMany" : Str) te_Barred_NoMove_NoTree_TooMany = some true := rfl
@[simp] theorem te_Barred_NoMove_NoTree_TooMany_BadRow : List.lookup ("BadRow" : Str) te_Barred_NoMove_NoTree_TooMany = some false := rfl
end Fw

/- part FwF -/
set_option maxHeartbeats 2000000
namespace Fw
open PySem PySem.Spec PyProof.Rows L2
/-! ### xs[::-1] -/
section
variable {prog : Program} {w : World} {A : Around} {E : Value → Shared → Prop} {s : Shared}
theorem rv_adjust (n : Nat) : Builtin.Slice.sliceAdjust none none (-1) (n : Int) = ((n : Int) - 1, -1) := by
  unfold Builtin.Slice.sliceAdjust
  simp
theorem rv_places (n : Nat) : Builtin.Slice.slicePlaces ((n : Int) - 1) (-1) (-1) = n := by
  unfold Builtin.Slice.slicePlaces
  simp only [show ¬ ((-1 : Int) > 0) by decide, if_false]
  rw [show (- -1 : Int) = 1 by decide, Int.ediv_one]
  split <;> omega
theorem rv_applied {sl : Addr} {t : Tok} {n : Nat} {Q : Int × Int × Nat → Shared → Prop} (hs : s.heap.IsSliceOf sl .none .none (.int (-1) t))
    (h : Q ((n : Int) - 1, -1, n) s) : wpAny (model prog w) A (Builtin.Slice.sliceApplied (.ref sl) (pure (n : Int))) Q E s := by
  obtain ⟨os, hos, hcs, hds⟩ := id hs
  unfold Builtin.Slice.sliceApplied Builtin.Slice.sliceFields
  refine wpAny_bind (wpAny_bind (wpAny_field hos hds (x := .none) rfl (wpAny_bind (wpAny_field hos hds (x := .none) rfl (wpAny_bind (wpAny_field hos hds (x := .int (-1) t) rfl (wpAny_pure ?_)))))))
  refine wpAny_bind (HT.slicePart_ (.int (-1) t) ?_)
  show wpAny _ _ (if ((-1 : Int) == 0) = true then _ else _) _ _ s
  rw [if_neg (by decide)]
  refine wpAny_bind (HT.slicePart_ .none (wpAny_bind (HT.slicePart_ .none (wpAny_bind (wpAny_pure ?_)))))
  show wpAny _ _ (match Builtin.Slice.sliceAdjust none none (-1) (n : Int) with | (lo, hi) => pure (lo, (-1 : Int), Builtin.Slice.slicePlaces lo hi (-1))) _ _ s
  rw [rv_adjust n]
  show wpAny _ _ (pure ((n : Int) - 1, (-1 : Int), Builtin.Slice.slicePlaces ((n : Int) - 1) (-1) (-1))) _ _ s
  rw [rv_places]
  exact wpAny_pure h
theorem fm_congr {α β : Type} {f g : α → Option β} : ∀ {l : List α}, (∀ x ∈ l, f x = g x) → l.filterMap f = l.filterMap g
  | [], _ => rfl
  | a :: l, h => by rw [List.filterMap_cons, List.filterMap_cons, h a List.mem_cons_self, fm_congr fun x hx => h x (List.mem_cons_of_mem _ hx)]
theorem rv_pick (xs : Array Value) : ((List.range xs.size).filterMap fun (m : Nat) => xs[((xs.size : Int) - 1 + (m : Int) * -1).toNat]?).toArray = xs.toList.reverse.toArray := by
  have e : (List.range xs.size).filterMap (fun (m : Nat) => xs[((xs.size : Int) - 1 + (m : Int) * -1).toNat]?) = ((List.range xs.size).map fun k => xs.size - 1 - k).filterMap (xs[·]?) := by
    rw [List.filterMap_map]
    exact fm_congr fun m hm => by
      have := List.mem_range.mp hm
      show xs[_]? = xs[_]?
      congr 1
      show ((xs.size : Int) - 1 + (m : Int) * -1).toNat = xs.size - 1 - m
      omega
  rw [e, PySem.W.krv_range, List.filterMap_reverse, PySem.W.krv_all]
theorem rv_tuple {t sl : Addr} {items : Array Value} {u : Tok} {Q : Value → Shared → Prop} (ht : IsTup s.heap t items) (hs : s.heap.IsSliceOf sl .none .none (.int (-1) u))
    (h : Q (.ref s.heap.objs.size) { s with heap := s.heap.push { cls := .type "tuple", data := .seq items.toList.reverse.toArray } })
    (hsz : items.size ≤ sizeLine) : wpAny (model prog w) A (getItem (.ref t) (.ref sl)) Q E s := by
  have htake : sizeOk (.seq items.toList.reverse.toArray) := by
    show items.toList.reverse.toArray.size ≤ sizeLine
    rw [List.size_toArray, List.length_reverse, Array.length_toList]
    exact hsz
  obtain ⟨os, hos, hcs, hds⟩ := id hs
  have hTs : s.TypeIs (.ref sl) "slice" := ⟨os, hos, hcs⟩
  unfold getItem
  try with_reducible refine wpAny_holding ?_
  first | refine wpAny_bind (wpAny_pure ?_) | skip
  refine wpAny_bind (wpAny_sequenceKey ht.typeIs (by decide) ?_)
  refine wpAny_bind (wpAny_callSpecial?_slot (name := Str.ofString "__getitem__") ht.typeIs PyProof.Rows.slot_tuple_getitem
    (wpAny_call_entry PyProof.Rows.slot_tuple_getitem ht.typeIs entry_tuple_getitem ?_ (args_tuple_getitem _ _)))
  show wpAny _ _ (Builtin.Tuple.tupleItemsOf (.ref t) >>= _) _ _ s
  refine wpAny_bind (tupleItemsOf_ ht ?_)
  refine wpAny_bind (wpAny_typeOf hTs ?_)
  rw [if_pos (by decide)]
  refine wpAny_bind (rv_applied hs ?_)
  have hno : ¬ (((items.size : Int) - 1 == 0 && (-1 : Int) == 1 && items.size == items.size) = true) := by
    intro q
    rw [Bool.and_eq_true, Bool.and_eq_true] at q
    exact absurd (eq_of_beq q.1.2) (by decide)
  show wpAny _ _ (if ((items.size : Int) - 1 == 0 && (-1 : Int) == 1 && items.size == items.size) = true then _ else _) _ _ s
  rw [if_neg hno, rv_pick]
  first
    | exact wpAny_bind (m := Builtin.Tuple.tupleExact _) (wpAny_newObj_type (wpAny_pure ⟨_, rfl, wpAny_pure h⟩) htake)
    | exact wpAny_bind (m := Builtin.Tuple.tupleExact _) (wpAny_newObj_type (wpAny_bind (wpAny_pure (wpAny_pure ⟨_, rfl, wpAny_pure h⟩))) htake)
    | exact wpAny_bind (wpAny_bind (m := Builtin.Tuple.tupleExact _) (wpAny_newObj_type (wpAny_pure (wpAny_pure ⟨_, rfl, wpAny_pure h⟩)) htake))
    | exact wpAny_bind (wpAny_bind (m := Builtin.Tuple.tupleExact _) (wpAny_newObj_type (wpAny_pure ⟨_, rfl, wpAny_pure h⟩) htake))
end
section
variable {X : Cx} {B : Bs} {e st : Expr} {te tk : TE} {pos p2 : Pos}
def rRevS (K : PySem.W.Frag) : V → Hp → VK → Prop := fun x H Q => ∃ a xs, x = .ref a ∧ ((SqL K H a xs ∧ ∀ p, H p = none → Q (.ref p) (upd H p (.lst xs.reverse))) ∨ (SqT K H a xs ∧ ∀ p, H p = none → Q (.ref p) (upd H p (.tup xs.reverse))))
theorem pe_revS (he : PE X e te) (hk : PE X st tk) : PE X (.Subscript e (.Slice none none (some st) p2) pos) (fun σ H Q => te σ H fun x H1 => tk σ H1 fun u H2 => u = .int (-1) ∧ rRevS X.K x H2 Q) := by
  refine ⟨fun pins s σ H Q I h => ?_⟩
  refine Subscript_ (thn (he.run pins s σ H _ I h) fun v s1 ⟨x, H1, I1, r1, q1⟩ => ?_)
  refine wpAny_Slice ?_
  rw [evalPart_none]
  refine wpAny_pure (wpAny_pure ?_)
  rw [evalPart_some]
  refine thn (hk.run pins s1 σ H1 _ I1 q1) fun vk s3 ⟨u, H3, I3, ru, hu, q3⟩ => ?_
  subst hu
  obtain ⟨t, rfl⟩ := ru
  have I4 : Inv X pins σ H3 { s3 with heap := s3.heap.push { cls := .type "slice", data := .fields #[.none, .none, .int (-1) t] } } := I3.kept (t' := s3.toks) fun b ob q => Heap.get?_push_of_some _ q
  have hsl : ({ s3 with heap := s3.heap.push { cls := .type "slice", data := .fields #[.none, .none, .int (-1) t] } } : Shared).heap.IsSliceOf s3.heap.objs.size .none .none (.int (-1) t) := Heap.IsSliceOf.new ..
  obtain ⟨a, xs, rfl, q⟩ := q3
  cases r1
  rcases q with ⟨hx, q⟩ | ⟨hx, q⟩
  · obtain ⟨its, r, ht, hz⟩ := I4.list hx
    have hlen := r.length
    refine tail_any (ops := [.ref a, .ref s3.heap.objs.size]) ht.isList.typeIs slot_list_getitem.lookup ?_ (by with_unfolding_all rfl)
    refine wpAny_getItem_list_slice ht.isList hsl .none .none (.int (-1) t) (by simp) ?_ (by rw [List.size_toArray] <;> omega)
    rw [PySem.W.krv_pick]
    refine ⟨.ref _, _, I4.laid (t' := s3.toks) (o := .lst xs.reverse) (fun b ob q => Heap.get?_push_of_some _ q) (Nat.le_refl _) ?_, rfl, q _ (I4.hok.fresh (Nat.le_refl _))⟩
    exact ⟨by rw [List.length_reverse]; exact hz, _, 0, r.reverse, Heap.get?_push_size _ rfl⟩
  · obtain ⟨its, r, ht, hz⟩ := I4.tuple hx
    have hlen := r.length
    refine tail_any (ops := [.ref a, .ref s3.heap.objs.size]) ht.typeIs PyProof.Rows.slot_tuple_getitem.lookup ?_ (by with_unfolding_all rfl)
    refine rv_tuple ht hsl ?_ (by rw [List.size_toArray] <;> omega)
    refine ⟨.ref _, _, I4.laid (t' := s3.toks) (o := .tup xs.reverse) (fun b ob q => Heap.get?_push_of_some _ q) (Nat.le_refl _) ?_, rfl, q _ (I4.hok.fresh (Nat.le_refl _))⟩
    exact ⟨by rw [List.length_reverse]; exact hz, _, r.reverse, ⟨_, Heap.get?_push_size _ rfl, rfl, 0, rfl⟩⟩
variable {T ts : Tm} {ρ : En} {σ : L2.St} {H : Hp} {F : List Addr} {pa : Opd} {fk : En → Out D} {a : Expr}
def evRv (pa : Opd) (fk : En → Out D) : En → Out D := fun ρ => (evOps [pa, .val fk] ρ).bind fun ds ρ' => match ds with
  | [d, .int k] => if k = -1 then match seqOf d with
    | some (b, xs) => .ok (if b = true then .lst true xs.reverse else .tup xs.reverse) ρ'
    | none => .no
    else .no
  | _ => .no
theorem rev_rp {S : Gs} {H Hs : Hp} : ∀ {xs : List D} {vs : List V}, RpL S H Hs xs vs [] → RpL S H Hs xs.reverse vs.reverse []
  | [], [], _ => .nil
  | [], v :: vs, r => by cases r
  | d :: xs, [], r => by cases r
  | d :: xs, v :: vs, r => by
    obtain ⟨r1, r2⟩ := r.cons_nil
    rw [List.reverse_cons, List.reverse_cons]
    exact RpL.append (F := []) (G := []) (rev_rp r2) (.cons (F := []) (G := []) r1 .nil)
theorem rv_fin {v : V} {G : List Addr} {b : Bool} {xs : List D} {K : PySem.W.Frag} {Q : VK} {d : D} (r : R B (T ++ ts) ρ σ H F) (rb : RpB B H F d v G) (e : seqOf d = some (b, xs))
    (q : ∀ v H' F', R B (T ++ [(if b = true then .lst true xs.reverse else .tup xs.reverse, v)]) ρ σ H' F' → Q v H') : rRevS K v H Q := by
  cases b with
  | true =>
    obtain ⟨a, vs, rfl, ha, rl⟩ := seqOf_lst rb e
    exact ⟨a, vs, rfl, .inl ⟨SqL.of ha, fun p hp => q _ _ _ (r.drop.newL (rev_rp rl) hp (by rw [List.length_reverse]; exact r.hl _ _ (.inl ha)))⟩⟩
  | false =>
    obtain ⟨a, vs, rfl, ha, rl⟩ := seqOf_tp rb e
    exact ⟨a, vs, rfl, .inr ⟨SqT.of ha, fun p hp => q _ _ _ (r.drop.newT (rev_rp rl) hp (by rw [List.length_reverse]; exact r.hl _ _ (.inr ha)))⟩⟩
theorem ev_rv (ha : PE X a (tOpd B pa)) (hk : PE X st (cE B fk)) : PE X (.Subscript a (.Slice none none (some st) p2) pos) (cE B (evRv pa fk)) := (pe_revS ha hk).imp fun σ H Q ⟨T, ρ, F, r, q⟩ => by
  refine ops_run (ps := [pa, .val fk]) (K := fun vs H => match vs with | [x, y] => y = .int (-1) ∧ rRevS X.K x H Q | _ => False) r (Out.wp_mono (Out.wp_bind q) (fun ds ρ' q vs H' F' ts r' o => ?_) fun _ _ z => z)
  have hl := ops_len o
  match ds, hl with
  | [d, d2], _ =>
    obtain ⟨v1, v2, G1, G2, rfl, r1, r2⟩ := o.two r'
    dsimp only at q ⊢
    split at q
    · rename_i d k e1
      cases e1
      split at q
      · rename_i hk
        subst hk
        split at q
        · rename_i b xs e2
          exact ⟨r2.int, rv_fin r' r1 e2 q⟩
        · exact q.elim
      · exact q.elim
    · exact q.elim
def rvsK : Out (List D) → Out D
  | .ok [d, .int k] ρ' => if k = -1 then match seqOf d with
    | some (b, xs) => .ok (if b = true then .lst true xs.reverse else .tup xs.reverse) ρ'
    | none => .no
    else .no
  | .ok _ _ => .no
  | .ex x ρ => .ex x ρ
  | .no => .no
def rvo (ρ : En) : Option (Bool × List D) → Out D
  | some (true, xs) => .ok (.lst true xs.reverse) ρ
  | some (false, xs) => .ok (.tup xs.reverse) ρ
  | none => .no
@[simp] theorem evRv_eq (pa : Opd) (fk : En → Out D) (ρ : En) : evRv pa fk ρ = rvsK (evOps [pa, .val fk] ρ) := by
  rw [evRv]
  cases evOps [pa, .val fk] ρ with
  | ok ds ρ' =>
    match ds with
    | [] => rfl
    | [d] => rfl
    | [d, d2] => cases d2 <;> rfl
    | d :: d2 :: d3 :: ds => cases d2 <;> rfl
  | _ => rfl
@[simp] theorem rvsK_ok (d : D) (ρ : En) : rvsK (.ok [d, .int (-1)] ρ) = rvo ρ (seqOf d) := by
  simp only [rvsK, if_true]
  rcases seqOf d with _ | ⟨b, xs⟩
  · rfl
  · cases b <;> rfl
@[simp] theorem rvsK_ex (x : Exc) (ρ : En) : rvsK (.ex x ρ) = .ex x ρ := rfl
@[simp] theorem rvo_t (ρ : En) (xs : List D) : rvo ρ (some (true, xs)) = .ok (.lst true xs.reverse) ρ := rfl
@[simp] theorem rvo_f (ρ : En) (xs : List D) : rvo ρ (some (false, xs)) = .ok (.tup xs.reverse) ρ := rfl
@[simp] theorem lcK_ex (t : D → En → Option En) (c : En → Out Bool) (elt : En → Out D) (own : List Nat) (x : Exc) (ρ : En) : lcK t c elt own (.ex x ρ) = .ex x ρ := (rfl)
end
/-! ### a, b = t: what a fresh tuple holds goes to the slots -/
section
variable {X : Cx} {B : Bs} {T : Tm} {ρ : En} {σ : L2.St} {H : Hp} {F : List Addr} {pos : Pos}
theorem RpL.revG {S : Gs} {H Hs : Hp} : ∀ {xs : List D} {vs : List V} {G : List Addr}, RpL S H Hs xs vs G → ∃ G', RpL S H Hs xs.reverse vs.reverse G' ∧ G'.Perm G
  | [], vs, G, r => by cases r; exact ⟨[], .nil, .refl _⟩
  | d :: xs, vs, G, r => by
    cases r with
    | @cons _ v _ us F1 G1 h r =>
      obtain ⟨G', r', p⟩ := RpL.revG r
      refine ⟨G' ++ (F1 ++ []), ?_, ?_⟩
      · rw [List.reverse_cons, List.reverse_cons]
        exact RpL.append r' (.cons h .nil)
      · rw [List.append_nil]
        exact List.perm_append_comm.trans (p.append_left F1)
theorem zip_rev {α β : Type} : ∀ {xs : List α} {ys : List β}, xs.length = ys.length → (xs.zip ys).reverse = xs.reverse.zip ys.reverse
  | [], [], _ => rfl
  | [], y :: ys, h => by cases h
  | x :: xs, [], h => by cases h
  | x :: xs, y :: ys, h => by
    have h' : xs.length = ys.length := by simpa using h
    rw [List.zip_cons_cons, List.reverse_cons, zip_rev h', List.reverse_cons, List.reverse_cons, List.zip_append (by simp [h'])]
    rfl
theorem R.openT {ds : List D} {v : V} (h : R B (T ++ [(.tup ds, v)]) ρ σ H F) : ∃ a vs, v = .ref a ∧ H a = some (.tup vs) ∧ ds.length = vs.length ∧ R B (T ++ (ds.zip vs).reverse) ρ σ H F := by
  obtain ⟨fp, p⟩ := h.pt
  have r1 := p.tm T.length (.tup ds) v (by simp)
  generalize hG : fp (.inl T.length) = G at r1
  cases r1 with
  | @tup a vs _ _ ha l1 =>
    have n1 := p.nd (.inl T.length)
    rw [hG] at n1
    obtain ⟨G', l2, pm⟩ := RpL.revG l1
    have p0 : Pt B T ρ.vs σ H F (fun j => match j with | .inl k => if k < T.length then fp (.inl k) else [] | .inr k => fp (.inr k)) := by
      refine ⟨fun j d v e => ?_, fun i s e => p.sl i s e, fun i => ?_, fun i j x hi hj => ?_, fun i x hi => ?_⟩
      · have hj := (List.getElem?_eq_some_iff.mp e).1
        show Rp _ _ _ _ _ (if j < T.length then fp (.inl j) else [])
        rw [if_pos hj]
        exact p.tm j d v (by rw [List.getElem?_append_left hj]; exact e)
      · cases i with
        | inl k =>
          show (if k < T.length then fp (.inl k) else []).Nodup
          split
          · exact p.nd _
          · exact .nil
        | inr k => exact p.nd _
      · have key : ∀ i, x ∈ (match i with | .inl k => if k < T.length then fp (.inl k) else [] | .inr k => fp (.inr k) : List Addr) → x ∈ fp i := fun i hi => by
          cases i with
          | inl k =>
            dsimp only at hi
            split at hi
            · exact hi
            · cases hi
          | inr k => exact hi
        exact p.ap i j x (key i hi) (key j hj)
      · cases i with
        | inl k =>
          dsimp only at hi
          split at hi
          · exact p.sub _ x hi
          · cases hi
        | inr k => exact p.sub _ x hi
    obtain ⟨fp', p'⟩ := p0.pushG l2 (pm.nodup_iff.mpr n1) (fun x hx => p.sub (.inl T.length) x (by rw [hG]; exact pm.mem_iff.mp hx)) fun j x hx hm => by
      have key : ∃ k, x ∈ fp k ∧ k ≠ .inl T.length := by
        cases j with
        | inl k =>
          dsimp only at hm
          split at hm
          · exact ⟨_, hm, (by intro z; cases z; omega)⟩
          · cases hm
        | inr k => exact ⟨_, hm, (by intro z; cases z)⟩
      obtain ⟨k, k1, k2⟩ := key
      exact k2 (p.ap _ _ x k1 (by rw [hG]; exact pm.mem_iff.mp hx))
    refine ⟨a, vs, rfl, (hid_some ha).2, l1.length, { h with pt := ⟨fp', ?_⟩ }⟩
    rw [zip_rev l1.length]
    exact p'
def seto : List Sv → List Nat → List D → Option (List Sv)
  | vs, [], [] => some vs
  | vs, i :: is, d :: ds => seto (vs.set i (mkSv d)) is ds
  | _, _, _ => none
def tgO (is : List Nat) : D → En → Option En := fun d ρ => match d with
  | .tup ds => (seto ρ.vs is ds).map fun vs => { ρ with vs := vs }
  | _ => none
theorem names_runO {is : List Nat} : ∀ {ds : List D} {vs : List V} {T : Tm} {ρ : En} {σ : L2.St} {H : Hp} {F : List Addr} {svs : List Sv} {Q : L2.St → Hp → Prop}, B.free is = true → ds.length = vs.length → R B (T ++ (ds.zip vs).reverse) ρ σ H F →
    seto ρ.vs is ds = some svs → (∀ σ' H' F', R B T { ρ with vs := svs } σ' H' F' → Q σ' H') → gNames is vs σ H Q := by
  induction is with
  | nil =>
    intro ds vs T ρ σ H F svs Q hf hl r e q
    cases ds with
    | nil =>
      cases vs with
      | nil => cases e; exact ⟨rfl, q _ _ _ (by simpa using r)⟩
      | cons v vs => cases hl
    | cons d ds => cases e
  | cons i is ih =>
    intro ds vs T ρ σ H F svs Q hf hl r e q
    cases ds with
    | nil => cases e
    | cons d ds =>
      cases vs with
      | nil => cases hl
      | cons v vs =>
        refine ⟨v, vs, rfl, ?_⟩
        rw [List.zip_cons_cons, List.reverse_cons, ← List.append_assoc] at r
        exact ih (ρ := { ρ with vs := ρ.vs.set i (mkSv d) }) (Bs.free_cons hf).2 (by simpa using hl) (r.store (i := i) (Bs.free_cons hf).1) e q
theorem eg_tupO {es : List Expr} {is : List Nat} {k : Nat} (hN : X.N.Nodup) (hc : X.calm = true) (h : EG X es is) (hl : es.length = is.length := by rfl) (hn : (assignEach es X.env).length = es.length := by rfl) (hst : (assignEach es X.env).findIdx? (·.1) = none := by rfl) (hme : B.free is = true := by rfl) : PG X (.Tuple es k pos) (cG B (tgO is)) :=
  (pg_tup hc (h.run hN) hn hst).imp fun v σ H Q ⟨T, ρ, F, d, ρ', r, e, q⟩ => by
    unfold tgO at e
    split at e
    · rename_i ds
      obtain ⟨a, vs, rfl, ha, hl2, r1⟩ := r.openT
      cases e1 : seto ρ.vs is ds with
      | none => rw [e1] at e; cases e
      | some svs =>
        rw [e1] at e; cases e
        refine ⟨a, vs, rfl, SqT.of ha, ?_, names_runO hme hl2 r1 e1 q⟩
        rw [← hl2]
        have : ∀ (is : List Nat) (vs : List Sv) (ds : List D) (svs : List Sv), seto vs is ds = some svs → ds.length = is.length := by
          intro is
          induction is with
          | nil => intro vs ds svs e; cases ds with
            | nil => rfl
            | cons d ds => cases e
          | cons i is ih => intro vs ds svs e; cases ds with
            | nil => cases e
            | cons d ds => simp [ih _ _ _ e]
        rw [this _ _ _ _ e1, hl]
    · cases e
@[simp] theorem tgO_tup (is : List Nat) (vs : List Sv) (st : RSt) (ds : List D) : tgO is (.tup ds) ⟨vs, st⟩ = (seto vs is ds).map fun vs => ⟨vs, st⟩ := (rfl)
@[simp] theorem seto_nil (vs : List Sv) : seto vs [] [] = some vs := (rfl)
@[simp] theorem seto_cons (vs : List Sv) (i : Nat) (is : List Nat) (d : D) (ds : List D) : seto vs (i :: is) (d :: ds) = seto (vs.set i (mkSv d)) is ds := (rfl)
end
end Fw

/- part FwPx -/
set_option maxHeartbeats 2000000
namespace Fw
open PySem PySem.Spec PyProof.Rows L2
/-! ### the exception that a suite holds -/
/-- p: the exception x, its dict's fields read where H0 has them -/
def PinD (K : PySem.W.Frag) (S : Gs) (H0 : Hp) (p : Addr × Obj) (x : Exc) : Prop := ∃ d : Option Addr, Zc (.ref (clsAt K x.cls)) d p.2 ∧ (∃ vs, p.2.data = .fields vs) ∧ clsAt K x.cls ≠ 0 ∧ (d = none → x.fs = []) ∧
  ∀ dd, d = some dd → dd ∉ sA S ∧ ∃ fvs, H0 dd = some (.xd fvs) ∧ fvs.map (·.1) = x.fs.map (·.1) ∧ (x.fs.map fun p => scV p.2) = fvs.map fun p => some p.2
theorem PinD.at {K : PySem.W.Frag} {S : Gs} {H0 H1 : Hp} {p : Addr × Obj} {x : Exc} (h : PinD K S H0 p x) (k : ∀ a o, H0 a = some o → a ∉ sA S → H1 a = some o) : PinD K S H1 p x := by
  obtain ⟨d, h1, h2, h3, h4, h5⟩ := h
  refine ⟨d, h1, h2, h3, h4, fun dd e => ?_⟩
  obtain ⟨n, fvs, f1, f2⟩ := h5 dd e
  exact ⟨n, fvs, k _ _ f1 n, f2⟩
def PinX (X : Cx) (B : Bs) (a : Addr) (x : Exc) : Prop := ∃ oe, (a, oe) ∈ X.pn ∧ PinD X.K B.S B.H0 (a, oe) x
def HasP (X : Cx) (H : Hp) (a D : Addr) : Prop := ∃ (oe : Obj) (d : Option Addr), (a, oe) ∈ X.pn ∧ Zc (.ref D) d oe ∧ (∃ vs, oe.data = .fields vs) ∧ ∀ dd, d = some dd → ∃ fs, H dd = some (.xd fs)
theorem HasP.mono {X : Cx} {H H' : Hp} {a D : Addr} (h : HasP X H a D) (k : ∀ b o, H b = some o → H' b = some o) : HasP X H' a D := by
  obtain ⟨oe, d, h1, h2, h3, h4⟩ := h
  exact ⟨oe, d, h1, h2, h3, fun dd e => let ⟨fs, z⟩ := h4 dd e; ⟨fs, k _ _ z⟩⟩
theorem inst_p {X : Cx} {pins : List (Addr × Obj)} {σ : L2.St} {H : Hp} {s : Shared} {a D : Addr} (I : Inv X pins σ H s) (h : HasP X H a D) : ∃ oe od, PySem.W.InstAt s.heap a oe D od := by
  obtain ⟨oe, d, hp, hz, ⟨vs, hd⟩, hf⟩ := h
  obtain ⟨hget, _⟩ := I.pin (a, oe) (List.mem_append_left _ hp)
  obtain ⟨oc, odt, dt, sl⟩ := oe
  obtain ⟨z1, z2⟩ := hz
  dsimp only at z1 z2 hd
  subst z1 z2 hd
  cases odt with
  | none => exact ⟨_, none, hget, rfl, rfl, trivial⟩
  | some dd =>
    obtain ⟨fs, hf⟩ := hf dd rfl
    obtain ⟨o, ho⟩ := objOk_get (I.hok dd _ hf)
    exact ⟨_, some o, hget, rfl, rfl, ho⟩
def rIsP (X : Cx) : List V → Hp → VK → Prop := fun xs H Q => ∃ (a D : Addr) (c : V) (u : Value) (b : Bool), xs = [.ref a, c] ∧ HasP X H a D ∧ ExcC X.K D ∧ ClsV c u ∧ PySem.W.kitOne X.K (.ref D) u = some b ∧ Q (.bl b) H
def rIsPT (X : Cx) : List V → Hp → VK → Prop := fun xs H Q => ∃ (a D tp : Addr) (cs : List V) (us : List Value) (b : Bool), xs = [.ref a, .ref tp] ∧ HasP X H a D ∧ ExcC X.K D ∧ H tp = some (.tup cs) ∧ Paired ClsV cs us ∧ PySem.W.kitAny X.K (.ref D) us = some b ∧ Q (.bl b) H
section
variable {X : Cx}
theorem call_isP : CallR X (.builtin "isinstance") (rIsP X) := by
  intro pins s σ H xs us Q I r h
  obtain ⟨a, D, c, u, b, rfl, hx, C, k, e, q⟩ := h
  obtain ⟨u1, u2, rfl, r1, r2⟩ := vals2 r
  cases (show u1 = Value.ref a from r1)
  have e2 := k.eq r2
  subst e2
  obtain ⟨oe, od, J⟩ := inst_p I hx
  exact PySem.W.kia_one (kitx_h C) I.kIn J e (fun z => nomatch z) fun tk => ⟨.bl b, H, I.tok tk, rfl, q⟩
theorem call_isPT : CallR X (.builtin "isinstance") (rIsPT X) := by
  intro pins s σ H xs us Q I r h
  obtain ⟨a, D, tp, cs, ws, b, rfl, hx, C, hT, k, e, q⟩ := h
  obtain ⟨u1, u2, rfl, r1, r2⟩ := vals2 r
  cases (show u1 = Value.ref a from r1)
  cases (show u2 = Value.ref tp from r2)
  obtain ⟨oe, od, J⟩ := inst_p I hx
  obtain ⟨_, its, rv, o, h1, h2, n, h3⟩ := (show ObjOk X.prog X.w H s.heap tp (.tup cs) from I.hok tp _ hT)
  have e3 := ClsV.all k rv
  subst e3
  obtain ⟨oc, odd, dt, sl⟩ := o
  simp only at h2 h3
  subst h2 h3
  exact PySem.W.kia_tup (kitx_h C) I.kIn J h1 e (fun z => nomatch z) fun tk => ⟨.bl b, H, I.tok tk, rfl, q⟩
end
section
variable {X : Cx} {B : Bs} {T ts : Tm} {ρ : En} {σ : L2.St} {H : Hp} {F : List Addr} {tab : List (Str × Bool)} {xx : Exc} {a : Addr} {i : Nat} {n : Str} {pos p p1 p2 : Pos} {x : Str} {en : Expr}
theorem PinX.has (P : PinX X B a xx) (r : R B T ρ σ H F) : HasP X H a (clsAt X.K xx.cls) := by
  obtain ⟨oe, hp, d, h1, h2, h3, h4, h5⟩ := P
  refine ⟨oe, d, hp, h1, h2, fun dd e => ?_⟩
  obtain ⟨n, fvs, f1, _⟩ := h5 dd e
  exact ⟨fvs, r.ext _ _ f1 n⟩
def evXis (x : Exc) (tab : List (Str × Bool)) : En → Out D := fun ρ => match tab.lookup x.cls with
  | some b => .ok (.bl b) ρ
  | none => .no
theorem PinX.cls (P : PinX X B a xx) : clsAt X.K xx.cls ≠ 0 := by
  obtain ⟨oe, hp, d, h1, h2, h3, h4, h5⟩ := P
  exact h3
theorem ev_xis {D : Addr} (P : PinX X B a xx) (hpin : B.me i = some a) (I : IsT X.K (.ref D) tab) (C : XCs X.K (tab.map (·.1))) (hg : Gl X "isinstance") (hm : X.mg "isinstance" = none) (hg2 : Gl X x) (hm2 : X.mg x = some (.ref D)) (ha : PE X en (tVar i)) (hdb : (x == ("__debug__" : Str)) = false := by decide)
    (h1 : starEach [en, .Name x p2] X.env = (false, eval en X.env) :: starEach [.Name x p2] X.env := by rfl) (h2 : starEach [.Name x p2] X.env = (false, eval (.Name x p2) X.env) :: starEach [] X.env := by rfl) (hpl : (backTo pos (starEach [.Name x p2] X.env)).any (·.1) = false := by rfl) :
    PE X (.Call (.Name "isinstance" p) [en, .Name x p2] [] pos) (cE B (evXis xx tab)) :=
  (pe_callB call_isP hg hm boot_isinstance (pa_cons ha (pa_cons (pe_glob (v := .ref D) hg2 hm2 rfl hdb) pa_nil h2) h1) (by decide) (by decide) h1 hpl).imp fun σ H Q ⟨T, ρ, F, r, q⟩ => by
    unfold evXis at q
    split at q
    · rename_i b e
      have hm := lookup_mem e
      exact ⟨.ref a, r.pin i a hpin, a, _, _, _, b, rfl, P.has r, C _ (List.mem_map.mpr ⟨_, hm, rfl⟩) P.cls, .own D, I.ex _ hm P.cls, q _ _ _ (r.push (.bl b))⟩
    · exact q.elim
theorem ev_xisV (P : PinX X B a xx) (hpin : B.me i = some a) (I : IsT X.K (.type "ValueError") tab) (C : XCs X.K (tab.map (·.1))) (hg : Gl X "isinstance") (hm : X.mg "isinstance" = none) (hg2 : Gl X "ValueError") (hm2 : X.mg "ValueError" = none) (ha : PE X en (tVar i))
    (h1 : starEach [en, .Name "ValueError" p2] X.env = (false, eval en X.env) :: starEach [.Name "ValueError" p2] X.env := by rfl) (h2 : starEach [.Name "ValueError" p2] X.env = (false, eval (.Name "ValueError" p2) X.env) :: starEach [] X.env := by rfl) (hpl : (backTo pos (starEach [.Name "ValueError" p2] X.env)).any (·.1) = false := by rfl) :
    PE X (.Call (.Name "isinstance" p) [en, .Name "ValueError" p2] [] pos) (cE B (evXis xx tab)) :=
  (pe_callB call_isP hg hm boot_isinstance (pa_cons ha (pa_cons (pe_bltn (v := .ty "ValueError") hg2 hm2 (by decide +kernel) rfl (by decide) (by decide)) pa_nil h2) h1) (by decide) (by decide) h1 hpl).imp fun σ H Q ⟨T, ρ, F, r, q⟩ => by
    unfold evXis at q
    split at q
    · rename_i b e
      have hm := lookup_mem e
      exact ⟨.ref a, r.pin i a hpin, a, _, _, _, b, rfl, P.has r, C _ (List.mem_map.mpr ⟨_, hm, rfl⟩) P.cls, .ty _, I.ex _ hm P.cls, q _ _ _ (r.push (.bl b))⟩
    · exact q.elim
theorem ev_xisT {es : List Expr} {cs : List V} {us : List Value} {k : Nat} {pt : Pos} (P : PinX X B a xx) (hpin : B.me i = some a) (W : ClsEs X es cs us) (I : IsTs X.K us tab) (C : XCs X.K (tab.map (·.1))) (hg : Gl X "isinstance") (hm : X.mg "isinstance" = none) (ha : PE X en (tVar i)) (hz : cs.length ≤ sizeLine := by first | decide | simp [PySem.sizeLine_eq])
    (h1 : starEach [en, .Tuple es k pt] X.env = (false, eval en X.env) :: starEach [.Tuple es k pt] X.env := by rfl) (h2 : starEach [.Tuple es k pt] X.env = (false, eval (.Tuple es k pt) X.env) :: starEach [] X.env := by rfl) (hpl : (backTo pos (starEach [.Tuple es k pt] X.env)).any (·.1) = false := by rfl) :
    PE X (.Call (.Name "isinstance" p) [en, .Tuple es k pt] [] pos) (cE B (evXis xx tab)) := by
  obtain ⟨t, w1, w2, w3⟩ := W.run
  refine (pe_callB call_isPT hg hm boot_isinstance (pa_cons ha (pa_cons (pe_tup w1) pa_nil h2) h1) (by decide) (by decide) h1 hpl).imp fun σ H Q ⟨T, ρ, F, r, q⟩ => ?_
  unfold evXis at q
  split at q
  · rename_i b e
    have hm := lookup_mem e
    refine ⟨.ref a, r.pin i a hpin, w2 σ H _ ⟨hz, fun p hp => ?_⟩⟩
    have hup : ∀ b u, H b = some u → upd H p (.tup cs) b = some u := same_upd hp
    have r2 := r.grow hup (r.hl.upd (by intro vs z; rcases z with z | z <;> cases z; exact hz))
    exact ⟨a, _, p, cs, us, b, rfl, (P.has r).mono hup, C _ (List.mem_map.mpr ⟨_, hm, rfl⟩) P.cls, upd_same, w3, I.ex _ hm P.cls, q _ _ _ (r2.push (.bl b))⟩
  · exact q.elim
/-! e.f -/
def tXp (X : Cx) (te : TE) (n : Str) : TE := fun σ H Q => te σ H fun x H1 => ∃ (a D dd : Addr) (oe : Obj) (fs : List (Str × V)) (v : V), x = .ref a ∧ (a, oe) ∈ X.pn ∧ Zc (.ref D) (some dd) oe ∧ (∃ vs, oe.data = .fields vs) ∧ H1 dd = some (.xd fs) ∧ fs.lookup n = some v ∧ XfC X.K D ∧ PySem.W.findIn X.K (.ref D) n = some none ∧ Q v H1
theorem pe_xp {e : Expr} {te : TE} {pos : Pos} {n : Str} (he : PE X e te) (hb : attributeBase e n X.env (eval e X.env) = eval e X.env := by rfl) : PE X (.Attribute e n pos) (tXp X te n) := by
  refine ⟨fun pins s σ H Q I h => ?_⟩
  refine attr_of hb (thn (he.run pins s σ H _ I h) fun u s1 hh => ?_)
  obtain ⟨x, H1, I1, rx, a, D, dd, oe, fs, v, ex, hp, hz, ⟨vs, hd⟩, ea, l, C, hno, q⟩ := hh
  subst ex
  obtain rfl : u = Value.ref a := rx
  obtain ⟨ha, _⟩ := I1.pin (a, oe) (List.mem_append_left _ hp)
  have hx : ObjOk X.prog X.w H1 s1.heap dd (.xd fs) := I1.hok dd _ ea
  obtain ⟨mA, hns, hr⟩ := hx
  obtain ⟨od, ho, hl⟩ := lookIn_ns hns
  obtain ⟨u, hu, ru⟩ := RelO.some_of (v := v) (o := mA n) (by rw [← l]; exact hr n)
  have J : PySem.W.InstAt s1.heap a oe D (some od) := ⟨ha, hz.1, by unfold PySem.W.notCls; rw [hd] <;> rfl, by rw [hz.2]; exact ho⟩
  exact HandSPX.exc_get I1.kIn J C.ga C.gg C.exC (PySem.W.findObj_own C.hdC hno rfl (by rw [hl, hu])) (handed_of ru) ⟨v, H1, I1.tok _, ru, q⟩
def evXfl (x : Exc) (n : Str) (cs : List Str) : En → Out D := fun ρ => if cs.contains x.cls = true then match x.fs.lookup n with
  | some d => .ok d ρ
  | none => .no
  else .no
theorem fs_look : ∀ {fs : List (Str × D)} {fvs : List (Str × V)} {n : Str} {d : D}, fvs.map (·.1) = fs.map (·.1) → (fs.map fun p => scV p.2) = (fvs.map fun p => some p.2) → fs.lookup n = some d → ∃ v, fvs.lookup n = some v ∧ scV d = some v
  | [], _, _, _, _, _, h => by cases h
  | (m, y) :: fs, [], _, _, e, _, _ => by cases e
  | (m, y) :: fs, (m2, v) :: fvs, n, d, e1, e2, h => by
    simp only [List.map_cons, List.cons.injEq] at e1 e2
    obtain ⟨rfl, e1⟩ := e1
    obtain ⟨e3, e2⟩ := e2
    by_cases c : n = m2
    · subst c
      simp [List.lookup] at h ⊢
      subst h
      exact e3
    · have : (n == m2) = false := by simpa using c
      rw [List.lookup, this] at h
      rw [List.lookup, this]
      exact fs_look e1 e2 h
theorem ev_xfl {cs : List Str} (P : PinX X B a xx) (hpin : B.me i = some a) (C : XFs X.K n cs) (ha : PE X en (tVar i)) (hb : attributeBase en n X.env (eval en X.env) = eval en X.env := by rfl) : PE X (.Attribute en n pos) (cE B (evXfl xx n cs)) :=
  (pe_xp ha hb).imp fun σ H Q ⟨T, ρ, F, r, q⟩ => by
    unfold evXfl at q
    split at q
    · rename_i hc
      split at q
      · rename_i d e
        obtain ⟨oe, hp, dx, h1, h2, h3, h4, h5⟩ := P
        cases dx with
        | none => rw [h4 rfl] at e; cases e
        | some dd =>
          obtain ⟨nS, fvs, f1, f2, f3⟩ := h5 dd rfl
          obtain ⟨v, l1, l2⟩ := fs_look f2 f3 e
          obtain ⟨c1, c2⟩ := C _ (by simpa using hc)
          exact ⟨.ref a, r.pin i a hpin, a, _, dd, oe, fvs, v, rfl, hp, h1, h2, r.ext _ _ f1 nS, l1, c1, c2, q _ _ _ (r.push (scV_rp l2))⟩
      · exact q.elim
    · exact q.elim
end
/-! ### try: .., except C as e: suite -/
/-- a base for the suite: slot i holds the exception at a, its dict stays -/
def Bs.inS (B : Bs) (H0 : Hp) (i : Nat) (a : Addr) : Bs := { H0 := H0, S := B.S, M := B.M, W := WF, me := fun j => if j = i then some a else B.me j }
section
variable {X : Cx} {B : Bs} {T : Tm} {ρ : En} {σ : L2.St} {H : Hp} {F : List Addr} {i : Nat} {a : Addr} {H0 : Hp}
theorem R.toS (h : R B T ρ σ H F) (hf : B.free [i] = true) (hi : i < σ.length) (h1 : ∀ b o, H0 b = some o → b ∉ sA B.S → H b = some o) (h2 : ∀ b ∈ F, H0 b = none) : R (B.inS H0 i a) T { ρ with vs := ρ.vs.set i .no } (σ.set i (some (.ref a))) H F := by
  have h' := h.noSlot (i := i) (o := some (.ref a)) hf
  obtain ⟨a1, ⟨fp, p1, p2, p3, p4, p5⟩, a3, a4, a5, a6, a7, a8, a9, a10, a11⟩ := h'
  refine ⟨a1, ⟨fp, p1, p2, p3, p4, p5⟩, a3, a4, a5, a6, h1, h2, a9, a10, fun j b q => ?_⟩
  by_cases c : j = i
  · subst c
    have : some a = some b := by simpa [Bs.inS] using q
    cases this
    rw [List.getElem?_set_self hi]
  · have : B.me j = some b := by simpa [Bs.inS, c] using q
    exact a11 j b this
theorem R.ofS (h : R (B.inS H0 i a) T ρ σ H F) (hf : B.free [i] = true) (h1 : ∀ b o, B.H0 b = some o → b ∉ sA B.S → H0 b = some o) (h2 : ∀ b, H0 b = none → B.H0 b = none) : R B T ρ σ H F := by
  obtain ⟨a1, ⟨fp, p1, p2, p3, p4, p5⟩, a3, a4, a5, a6, a7, a8, a9, a10, a11⟩ := h
  refine ⟨a1, ⟨fp, p1, p2, p3, p4, p5⟩, a3, a4, a5, a6, fun b o e n => a7 b o (h1 b o e n) n, fun b hb => h2 b (a8 b hb), a9, a10, fun j b q => ?_⟩
  have c : j ≠ i := by
    rintro rfl
    rw [Bs.free1 hf] at q
    cases q
  exact a11 j b (by simpa [Bs.inS, c] using q)
def sTryAs (tab : List (Str × Bool)) (i : Nat) (body : En → Out Fl) (suite : Exc → En → Out Fl) : En → Out Fl := fun ρ => match body ρ with
  | .ok fl ρ' => .ok fl ρ'
  | .ex x ρ' => match tab.lookup x.cls with
    | some true => if i < ρ'.vs.length then match suite x { ρ' with vs := ρ'.vs.set i .no } with
      | .ok fl ρ2 => .ok fl { ρ2 with vs := ρ2.vs.set i .no }
      | _ => .no
      else .no
    | some false => .ex x ρ'
    | none => .no
  | .no => .no
variable {x n : Str} {c : Value} {body suite : List Stmt} {b₀ : Stmt} {np pos pos' : Pos} {tab : List (Str × Bool)} {fb : En → Out Fl} {fs : Exc → En → Out Fl}
theorem R.slotOut {i : Nat} (h : R B T ρ σ H F) : R B T { ρ with vs := ρ.vs.set i .no } σ H F := h.forget [i]
theorem es_tryAs (ht : ExT X.K c tab) (hcl : B.S.cl = clsAt X.K) (hs : X.stack = X.env :: X.outer) (hf : X.env.frame = some X.env.locals) (hN : X.N.Nodup) (hi : X.N[i]? = some n) (hln : X.env.kindOf n = some .local) (hc : Names X x c) (tk : Takes X B.W)
    (hb : ∀ (W : WX) (pn : List (Addr × Obj)) (xe : Value → Shared → Prop), Takes (X.tr pn xe) W → PassesOwn (model X.prog X.w) X.A X.env xe → PSs (X.tr pn xe) body (cS (B.setW W) fb))
    (hsu : ∀ (xx : Exc) (a : Addr) (oe : Obj) (pn : List (Addr × Obj)) (H0 : Hp), PinX (X.suite a ((a, oe) :: pn)) (B.inS H0 i a) a xx → PSs (X.suite a ((a, oe) :: pn)) (b₀ :: suite) (cS (B.inS H0 i a) (fs xx))) (hmi : B.free [i] = true := by rfl) :
    PS X (.Try body [.ExceptHandler (some (.Name x np)) (some n) (b₀ :: suite) pos'] [] [] pos) (cS B (sTryAs tab i fb fs)) :=
  (ps_try_as (ts := fun a cls d => fun D σ H => ∃ xx H0, (∀ oe : Obj, Zc cls d oe → (∃ vs, oe.data = .fields vs) → PinD X.K B.S H0 (a, oe) xx) ∧ cS (B.inS H0 i a) (fs xx) D σ H) hs hf hN hi hln hc tk hb
    (fun a oe cls d pn hz hv => ⟨fun pins s σ H D I ⟨xx, H0, hp, q⟩ => (hsu xx a oe pn H0 ⟨oe, List.mem_cons_self, hp oe hz hv⟩).run pins s σ H D I q⟩)).imp fun D' σ H ⟨T, ρ, F, r, q⟩ => by
    refine ⟨T, ρ, F, r.setW _, ?_⟩
    unfold sTryAs at q
    cases e : fb ρ with
    | no => rw [e] at q; exact q.elim
    | ok fl ρ' => rw [e] at q; exact slQ_W q
    | ex x ρ' =>
      rw [e] at q
      dsimp only at q
      intro cls d σ' H' F' xr r'
      have r1 := r'.unW
      obtain ⟨ec, ez, ed⟩ := xr
      cases el : tab.lookup x.cls with
      | none => rw [el] at q; exact q.elim
      | some b =>
        rw [el] at q
        have hm := ht _ (lookup_mem el) (by rw [hcl] at ez; exact ez)
        refine ⟨b, by rw [ec]; show PySem.W.exmOne X.K (.ref (B.S.cl x.cls)) c = _; rw [hcl]; exact hm, ?_, ?_⟩
        · rintro rfl a ha
          dsimp only at q
          -- the ground of the suite
          let H0 : Hp := fun b => if some b = d then H' b else B.H0 b
          have hdd : ∀ dd, d = some dd → dd ∉ B.M ++ F' ∧ ∃ fvs, H' dd = some (.xd fvs) ∧ fvs.map (·.1) = x.fs.map (·.1) ∧ (x.fs.map fun p => scV p.2) = fvs.map fun p => some p.2 := by
            rintro dd rfl
            obtain ⟨fvs, f1, f2, f3⟩ := ed
            obtain ⟨g1, g2⟩ := hid_some f1
            exact ⟨g1, fvs, g2, f2, f3⟩
          have hH0d : ∀ dd, d = some dd → H0 dd = H' dd := fun dd e => by simp [H0, e]
          have hH0o : ∀ b, some b ≠ d → H0 b = B.H0 b := fun b n => by simp [H0, n]
          have e1 : ∀ b o, H0 b = some o → b ∉ sA B.S → H' b = some o := fun b o e n => by
            by_cases k : some b = d
            · rw [hH0d b k.symm] at e; exact e
            · rw [hH0o b k] at e; exact r1.ext b o e n
          have e2 : ∀ b ∈ F', H0 b = none := fun b hb => by
            by_cases k : some b = d
            · exact absurd (List.mem_append_right _ hb) (hdd b k.symm).1
            · rw [hH0o b k]; exact r1.new b hb
          have e3 : ∀ b o, B.H0 b = some o → b ∉ sA B.S → H0 b = some o := fun b o e n => by
            by_cases k : some b = d
            · rw [hH0d b k.symm]; exact r1.ext b o e n
            · rw [hH0o b k]; exact e
          have e4 : ∀ b, H0 b = none → B.H0 b = none := fun b e => by
            by_cases k : some b = d
            · rw [hH0d b k.symm] at e
              obtain ⟨_, fvs, f1, _⟩ := hdd b k.symm
              rw [f1] at e; cases e
            · rw [hH0o b k] at e; exact e
          have hq : i < ρ'.vs.length := by
            by_cases k : i < ρ'.vs.length
            · exact k
            · rw [if_neg k] at q; exact q.elim
          rw [if_pos hq] at q
          have hlen : i < σ'.length := by rw [r1.len]; exact hq
          have r2 := r1.toS (i := i) (a := a) (H0 := H0) hmi hlen e1 e2
          refine ⟨x, H0, fun oe hz hv => ?_, T, _, F', r2, ?_⟩
          · refine ⟨d, by rw [← hcl]; show Zc (.ref (B.S.cl x.cls)) d oe; rw [← ec]; exact hz, hv, by rw [← hcl]; exact ez, fun k => by subst k; exact ed, fun dd k => ?_⟩
            obtain ⟨g1, fvs, g2, g3⟩ := hdd dd k
            exact ⟨fun z => g1 (List.mem_append_left _ (r1.sM _ z)), fvs, by rw [hH0d dd k]; exact g2, g3⟩
          · cases es : fs x { ρ' with vs := ρ'.vs.set i .no } with
            | no => rw [es] at q; exact q.elim
            | ex y ρ2 => rw [es] at q; exact q.elim
            | ok fl ρ2 =>
              rw [es] at q
              have back : ∀ {T : Tm} {ρ : En} {σ : L2.St} {H : Hp} {F : List Addr}, R (B.inS H0 i a) T ρ σ H F → R B T ρ σ H F := fun r => r.ofS hmi e3 e4
              cases fl with
              | nx => exact fun σ H F r => q _ _ _ ((back r).noSlot hmi)
              | bk => exact fun σ H F r => q _ _ _ ((back r).noSlot hmi)
              | ct => exact fun σ H F r => q _ _ _ ((back r).noSlot hmi)
              | rt d => exact fun v σ H F r => q _ σ _ _ ((back r).slotOut)
        · rintro rfl
          exact q cls d σ' H' F' ⟨ec, ez, ed⟩ r'.unW
def tasK (tab : List (Str × Bool)) (i : Nat) (suite : Exc → En → Out Fl) : Out Fl → Out Fl
  | .ok fl ρ' => .ok fl ρ'
  | .ex x ρ' => match tab.lookup x.cls with
    | some true => if i < ρ'.vs.length then match suite x { ρ' with vs := ρ'.vs.set i .no } with
      | .ok fl ρ2 => .ok fl { ρ2 with vs := ρ2.vs.set i .no }
      | _ => .no
      else .no
    | some false => .ex x ρ'
    | none => .no
  | .no => .no
def tasE (i : Nat) : Out Fl → Out Fl
  | .ok fl ρ2 => .ok fl { ρ2 with vs := ρ2.vs.set i .no }
  | _ => .no
@[simp] theorem tasE_ok (i : Nat) (fl : Fl) (vs : List Sv) (st : RSt) : tasE i (.ok fl ⟨vs, st⟩) = .ok fl ⟨vs.set i .no, st⟩ := rfl
@[simp] theorem sTryAs_eq (tab : List (Str × Bool)) (i : Nat) (b : En → Out Fl) (s : Exc → En → Out Fl) (ρ : En) : sTryAs tab i b s ρ = tasK tab i s (b ρ) := by
  rw [sTryAs]; cases b ρ <;> rfl
@[simp] theorem tasK_ok (tab : List (Str × Bool)) (i : Nat) (s : Exc → En → Out Fl) (fl : Fl) (ρ : En) : tasK tab i s (.ok fl ρ) = .ok fl ρ := rfl
theorem tasK_ex {tab : List (Str × Bool)} {i : Nat} {s : Exc → En → Out Fl} {x : Exc} {vs : List Sv} {st : RSt} (h : tab.lookup x.cls = some true) (hi : i < vs.length) : tasK tab i s (.ex x ⟨vs, st⟩) = tasE i (s x ⟨vs.set i .no, st⟩) := by
  rw [tasK]
  simp only [h, hi, if_true]
  cases s x ⟨vs.set i .no, st⟩ <;> rfl
theorem evXis_eq {x : Exc} {tab : List (Str × Bool)} {b : Bool} {ρ : En} (h : tab.lookup x.cls = some b) : evXis x tab ρ = .ok (.bl b) ρ := by
  rw [evXis]; simp only [h]
theorem evXfl_eq {x : Exc} {n : Str} {cs : List Str} {d : D} {ρ : En} (h : cs.contains x.cls = true) (h2 : x.fs.lookup n = some d) : evXfl x n cs ρ = .ok d ρ := by
  rw [evXfl, if_pos h]; simp only [h2]
end
/-! ### f(e), e the exception that the suite holds -/
section
open L2H
/-- what a def promises that is called with it -/
structure FnP (P : Program) (w : World) (K : PySem.W.Frag) (mg : Str → Option Value) (base : Heap) (k : Nat) (f : Addr) (fd : FuncData) (ps : List Str) (sp : Addr × Obj → Sp) : Prop where
  len : ∀ p vs H Q E, sp p vs H Q E → vs.length = ps.length
  run : ∀ (A : Around) (outer : List Env) (s : Shared) (H : Hp) (args : Args) (us : List Value) (vs : List V) (Q : VK) (E : XK) (p : Addr × Obj), RoomH k A → PinOk outer H s p → Env0 P w K mg base A outer s H → BindsTo s fd args (ps.zip us) → Vals vs us → sp p vs H Q E →
    codeAny (model P w) A (.call (.ref f) args) (CR CX0 outer P w H s Q E) s
/-- the context of its body -/
abbrev cxP (P : Program) (w : World) (K : PySem.W.Frag) (mg : Str → Option Value) (base : Heap) (N : List Str) (qual : Str) (scope : Scope) (f : Addr) (cd : Value) (A : Around) (outer : List Env) (s : Shared) (H : Hp) (E : XK) (p : Addr × Obj) : Cx := cxH CX0 P w K mg base N qual scope f cd A outer s H E p
variable {P : Program} {w : World} {K : PySem.W.Frag} {mg : Str → Option Value} {base : Heap}
theorem fn_ofP {k : Nat} {f : Addr} {x qual : Str} {st : Stmt} {fd : FuncData} {N ps : List Str} {sp : Addr × Obj → Sp} (F : Fun K x qual st f fd) (S : FnScope N ps (defScope st))
    (len : ∀ p vs H Q E, sp p vs H Q E → vs.length = ps.length)
    (hbody : ∀ (cdv : Value) (A : Around) (outer : List Env) (s : Shared) (H : Hp) (vs : List V) (Q : VK) (E : XK) (p : Addr × Obj), RoomH k (A.deeper (envOfC qual (defScope st) s.heap.objs.size f cdv)) → sp p vs H Q E →
      ∃ t, PSs (cxP P w K mg base N qual (defScope st) f cdv A outer s H E p) (defBody st) t ∧ t { nx := fun _ H' => Q .non H', rt := Q } (L2.start N vs) H) :
    FnP P w K mg base (k + 1) f fd ps sp := by
  obtain ⟨oc, od, kV, doc, pm, an, cdv, ct, osl, rfl, lk, hcd⟩ := F.ex
  refine ⟨len, fun A outer s H args us vs Q E p hr hpin e0 hb r hsp => ?_⟩
  have hl := len _ _ _ _ _ hsp
  have KX : K.In s.heap := e0.mod.kin.keeps fun b o e => (e0.bs b o e).1
  have lim : s.heap.NoLimit := e0.mod.nolimit.keeps fun b o e => (e0.bs b o e).1
  have hkind : ∀ y ∈ ps.zip us, (defScope st).names.lookup y.1 = some .local ∨ ((defScope st).names.lookup y.1 = some .cell ∧ ((cellsFrom (s.heap.objs.size + 1) (defScope st).names []).lookup y.1).isSome = true) := fun ⟨n, v⟩ hy => by
    rcases S.par n (List.of_mem_zip hy).1 with q | q
    · exact .inl q
    · exact .inr ⟨q, PySem.W.cellsFrom_some _ _ _ (.inl q)⟩
  refine codeAny_call_function hr.depth (KX _ _ lk) rfl S.co S.gen rfl (PySem.W.codeRec_of KX hcd) (hb _ _ _ _ ?_)
  refine wpAny_newFunctionEnv_cells S.kind hkind fun env he s1 x => ?_
  subst he
  refine ⟨lim.keeps x.toInCall.keep, codeAny_func ?_⟩
  obtain ⟨t, ht, hq⟩ := hbody cdv A outer s H vs Q E p (hr.deeper _) hsp
  have I : Inv (cxP P w K mg base N qual (defScope st) f cdv A outer s H E p) [] (L2.start N vs) H s1 := inv_startH S hpin e0 hl r x
  refine wpAny_mono (ht.run [] s1 (L2.start N vs) H _ I hq) (fun fl s' hs => ?_) fun e s' hs => hs
  have fin : ∀ {σ' : L2.St} {H' : Hp} {v : V} {u : Value}, Inv (cxP P w K mg base N qual (defScope st) f cdv A outer s H E p) [] σ' H' s' → RelV v u → Q v H' → CE outer P w H s Q u s' :=
    fun {σ' H' v u} J rv q => ⟨v, H', J.os, J.bare, J.base, J.hok, rv, q⟩
  cases fl with
  | ret u =>
    obtain ⟨v, σ', H', J, rv, q⟩ := hs
    exact fin J rv q
  | next =>
    obtain ⟨σ', H', J, q⟩ := hs
    exact fin (v := V.non) (u := Value.none) J rfl q
  | brk =>
    obtain ⟨_, _, _, q⟩ := hs
    exact False.elim q
  | cont =>
    obtain ⟨_, _, _, q⟩ := hs
    exact False.elim q
theorem run_fnP {X : Cx} {k : Nat} {f : Addr} {fd : FuncData} {ps : List Str} {sp : Addr × Obj → Sp} {pins : List (Addr × Obj)} {σ : L2.St} {H : Hp} {s : Shared} {Q : VK} {us : List Value} {vs : List V} {p : Addr × Obj} (F : FnP X.prog X.w X.K X.mg X.base k f fd ps sp) (hr : RoomH k X.A) (hp : p ∈ X.pn) (hb : Binds X.K fd ps [])
    (I : Inv X pins σ H s) (r : Vals vs us) (h : sp p vs H Q E0) : wpAny (model X.prog X.w) X.A (call (.ref f) us) (L2.EP X pins σ Q) X.xe s := by
  have hl : us.length = ps.length := by rw [← r.length]; exact F.len _ _ _ _ _ h
  have b := hb s us I.kIn (by rw [List.append_nil]; exact hl)
  rw [List.append_nil] at b
  have P1 := I.pin p (List.mem_append_left _ hp)
  have hpin : PinOk X.stack H s p := ⟨P1.1, P1.2.1, fun hm => (List.mem_cons.mp (I.stkSub p.1 hm)).elim P1.2.2.1 P1.2.2.2.1, P1.2.2.2.2⟩
  refine wpAny_call (codeAny_mono (F.run X.A X.stack s H ⟨us, []⟩ us vs Q E0 p hr hpin I.env0 b r h) fun r s' hq => ?_)
  cases r with
  | error e => exact False.elim hq
  | ok fl =>
    cases fl with
    | ret u => exact I.after hq
    | next => exact False.elim hq
    | brk => exact False.elim hq
    | cont => exact False.elim hq
/-- the promise of a def whose one parameter is the exception x, its meaning g x -/
def resP (g : Exc → En → Out Fl) (k : Nat) (x : Exc) (st : RSt) : Res := match g x ⟨List.replicate (k + 1) .no, st⟩ with
  | .ok .nx ρ => .ok .non ρ.st
  | .ok (.rt d) ρ => .ok d ρ.st
  | _ => .no
def spP (K : PySem.W.Frag) (x : Exc) (r : Exc → RSt → Res) (p : Addr × Obj) : Sp := fun vs H Q E => vs = [.ref p.1] ∧ ∃ S M st, S.cl = clsAt K ∧ PinD K S H p x ∧ StOk S st H ∧ (∀ a ∈ sA S, a ∈ M) ∧ (∀ a ∈ M, H a ≠ none) ∧ HLen H ∧ match r x st with
  | .ok d st' => ∀ v H' Fr, Ext S H H' → StOk S st' H' → HLen H' → (∀ a ∈ Fr, H a = none) → Fr.Nodup → (∀ a ∈ Fr, H' a ≠ none) → Rp S H' (hid (M ++ Fr) H') d v Fr → Q v H'
  | _ => False
/-- the body, slot 0 the exception -/
def BodyOkP (P : Program) (w : World) (K : PySem.W.Frag) (mg : Str → Option Value) (base : Heap) (N : List Str) (qual : Str) (st : Stmt) (f : Addr) (k : Nat) (g : Exc → En → Out Fl) : Prop :=
  ∀ (cdv : Value) (A : Around) (outer : List Env) (s : Shared) (H : Hp) (E : XK) (S : Gs) (M : List Addr) (p : Addr × Obj) (x : Exc), S.cl = clsAt K → RoomH k (A.deeper (envOfC qual (defScope st) s.heap.objs.size f cdv)) →
    PinX (cxP P w K mg base N qual (defScope st) f cdv A outer s H E p) ⟨H, S, M, WF, fun j => if j = 0 then some p.1 else none⟩ p.1 x →
    PSs (cxP P w K mg base N qual (defScope st) f cdv A outer s H E p) (defBody st) (cS ⟨H, S, M, WF, fun j => if j = 0 then some p.1 else none⟩ (g x))
def CalOkP (P : Program) (w : World) (K : PySem.W.Frag) (mg : Str → Option Value) (base : Heap) (k : Nat) (x : Str) (r : Exc → RSt → Res) : Prop :=
  ∃ (f : Addr) (fd : FuncData) (ps : List Str), mg x = some (.ref f) ∧ PySem.W.keepIn K (.ref f) = true ∧ Binds K fd ps [] ∧ ∀ xx, FnP P w K mg base k f fd ps (spP K xx r)
theorem cal_okP {x qual : Str} {st : Stmt} {f : Addr} {fd : FuncData} {N : List Str} {y : Str} {k j : Nat} {g : Exc → En → Out Fl} (F : Fun K x qual st f fd) (hm : mg x = some (.ref f)) (b : Binds K fd [y] []) (Sc : FnScope N [y] (defScope st)) (hk : N.length = j + 1) (h : BodyOkP P w K mg base N qual st f k g) :
    CalOkP P w K mg base (k + 1) x (resP g j) := by
  refine ⟨f, fd, [y], hm, F.kp, b, fun xx => fn_ofP F Sc (fun p vs H Q E h => by rw [h.1]; rfl) fun cdv A outer s H vs Q E p hr ⟨hv, S, M, st', hcl, hp, ok, sM, md, hl, q⟩ => ?_⟩
  subst hv
  have r0 : R ⟨H, S, M, WF, fun j => if j = 0 then some p.1 else none⟩ [] ⟨List.replicate (j + 1) .no, st'⟩ (L2.start N [.ref p.1]) H [] := by
    refine ⟨by simp [L2.start, hk], ⟨fun _ => [], (fun j d v z => by simp at z), fun i s z => ?_, fun _ => List.nodup_nil, (fun _ _ _ z => nomatch z), (fun _ _ z => nomatch z)⟩, (fun _ _ z => nomatch z), sM, md, ok, (fun _ _ z _ => z), (fun _ z => nomatch z), hl, (fun _ z => nomatch z), fun i a e => ?_⟩
    · dsimp only at z ⊢
      rw [List.getElem?_replicate] at z
      split at z
      · cases z; trivial
      · cases z
    · dsimp only at e
      split at e
      · rename_i e0
        subst e0
        cases e
        rfl
      · cases e
  refine ⟨_, h cdv A outer s H E S M p xx hcl hr ⟨p.2, List.mem_cons_self, hp⟩, [], _, [], r0, ?_⟩
  unfold resP at q
  cases e : g xx ⟨List.replicate (j + 1) .no, st'⟩ with
  | no => rw [e] at q; exact q.elim
  | ex x ρ => rw [e] at q; exact q.elim
  | ok fl ρ =>
    rw [e] at q
    cases fl with
    | nx =>
      intro σ H' F' r
      exact q _ H' [] (fun a o z n => r.ext a o z n) r.st r.hl (fun _ z => nomatch z) List.nodup_nil (fun _ z => nomatch z) .non
    | rt d =>
      intro v σ H' F' r
      obtain ⟨fp, p⟩ := r.pt
      have rv := p.tm 0 d v (by simp)
      have hs := p.sub (.inl 0)
      refine q v H' (fp (.inl 0)) (fun a o z n => r.ext a o z n) r.st r.hl (fun a ha => r.new a (hs a ha)) (p.nd _) (fun a ha => r.own a (hs a ha)) (rv.mono (fun _ _ _ z => z) fun a o e => ?_)
      obtain ⟨n, e⟩ := hid_some e
      refine hid_of e fun m => n ?_
      rcases List.mem_append.mp m with m | m
      · exact List.mem_append_left _ m
      · exact List.mem_append_right _ (hs a m)
    | bk => exact q.elim
    | ct => exact q.elim
theorem CalOkP.mono {k k' : Nat} {x : Str} {r : Exc → RSt → Res} (h : CalOkP P w K mg base k x r) (hk : k ≤ k') : CalOkP P w K mg base k' x r := by
  obtain ⟨f, fd, pn, hm, hkp, hb, G⟩ := h
  exact ⟨f, fd, pn, hm, hkp, hb, fun xx => ⟨(G xx).len, fun A outer s H args us vs Q E p hr => (G xx).run A outer s H args us vs Q E p (hr.mono hk)⟩⟩
def evCallP (r : Exc → RSt → Res) (x : Exc) : En → Out D := fun ρ => match r x ρ.st with
  | .ok d st' => .ok d { ρ with st := st' }
  | _ => .no
variable {X : Cx} {B : Bs} {a : Addr} {i : Nat} {xx : Exc}
theorem ev_callP {x : Str} {p : Pos} {en : Expr} {k : Nat} {r : Exc → RSt → Res} (G : CalOkP X.prog X.w X.K X.mg X.base k x r) (hr : RoomH k X.A) (Px : PinX X B a xx) (hpin : B.me i = some a) (hg : Gl X x) (hcl : B.S.cl = clsAt X.K) (ha : PE X en (tVar i)) {pos : Pos}
    (hdb : (x == ("__debug__" : Str)) = false := by decide) (he : starEach [en] X.env = (false, eval en X.env) :: starEach [] X.env := by rfl) (hpl : (backTo pos (starEach [] X.env)).any (·.1) = false := by rfl) : PE X (.Call (.Name x p) [en] [] pos) (cE B (evCallP r xx)) := by
  obtain ⟨f, fd, pn, hm, hk, hb, F⟩ := G
  obtain ⟨oe, hp, hd⟩ := Px
  refine ⟨fun pins s σ H Q I ⟨T, ρ, F0, r0, q⟩ => ?_⟩
  refine wpAny_Call_Name_kw (ld_glob I hg hm ?_ hdb)
  refine PySem.W.callWith_K (h₀ := X.base) I.ok.mod.kin hk (thn ((pa_cons ha pa_nil he).run pos pins s σ H (fun vs H1 => spP X.K xx r (a, oe) vs H1 Q E0) I ⟨.ref a, r0.pin i a hpin, ?_⟩) fun us s1 ⟨vs, H1, I1, r1, q1⟩ => ⟨I1.kIn, ?_⟩) he hpl
  · obtain ⟨F', r', nt⟩ := r0.thin
    refine ⟨rfl, B.S, B.M ++ F', ρ.st, hcl, hd.at r0.ext, r'.st, fun a ha => List.mem_append_left _ (r'.sM a ha), fun a ha => ?_, r'.hl, ?_⟩
    · rcases List.mem_append.mp ha with z | z
      · exact r'.md a z
      · exact r'.own a z
    · unfold evCallP at q
      cases e : r xx ρ.st with
      | no => rw [e] at q; exact q.elim
      | ex x st' => rw [e] at q; exact q.elim
      | ok d st' =>
        rw [e] at q
        intro v H2 Fr ext stok hl fresh nd own rr
        exact q v H2 _ (r'.after ext stok hl fresh nd own (by rw [← List.append_assoc]; exact rr))
  · exact run_fnP (F xx) hr hp hb I1 r1 q1
@[simp] theorem evCallP_eq (r : Exc → RSt → Res) (x : Exc) (ρ : En) : evCallP r x ρ = match r x ρ.st with | .ok d st' => .ok d { ρ with st := st' } | _ => .no := rfl
end
end Fw

/- part FwTs -/
set_option maxHeartbeats 2000000
namespace Fw
open PySem PySem.Spec PyProof.Rows L2
/-! ### sorted(xs), xs a list of tuples of ints, none of them empty -/
theorem lex_asym : ∀ {x y : List Int}, HT.lexLt x y = true → HT.lexLt y x = false
  | [], [], h => by cases h
  | [], _ :: _, _ => rfl
  | _ :: _, [], h => by cases h
  | x :: xs, y :: ys, h => by
    rw [HT.lexLt_cons] at h ⊢
    by_cases e : x = y
    · subst e
      rw [if_pos rfl] at h ⊢
      exact lex_asym h
    · rw [if_neg e, decide_eq_true_eq] at h
      rw [if_neg fun z => e z.symm, decide_eq_false_iff_not]
      omega
theorem lex_tr : ∀ {x y z : List Int}, HT.lexLt y x = false → HT.lexLt z y = false → HT.lexLt z x = false
  | [], _, [], _, _ => rfl
  | [], _, _ :: _, _, _ => rfl
  | _ :: _, [], _, h, _ => by cases h
  | _ :: _, _ :: _, [], _, h => by cases h
  | x :: xs, y :: ys, z :: zs, h1, h2 => by
    rw [HT.lexLt_cons] at h1 h2 ⊢
    by_cases e1 : y = x
    · subst e1
      rw [if_pos rfl] at h1
      by_cases e2 : z = y
      · subst e2
        rw [if_pos rfl] at h2 ⊢
        exact lex_tr h1 h2
      · rw [if_neg e2] at h2 ⊢
        exact h2
    · rw [if_neg e1, decide_eq_false_iff_not] at h1
      by_cases e2 : z = y
      · subst e2
        rw [if_neg e1, decide_eq_false_iff_not]
        exact h1
      · rw [if_neg e2, decide_eq_false_iff_not] at h2
        rw [if_neg (by omega), decide_eq_false_iff_not]
        omega
theorem lex_swo {α : Type} (k : α → List Int) : SrtO.Swo fun v u => HT.lexLt (k v) (k u) := ⟨fun _ _ h => lex_asym h, fun _ _ _ h1 h2 => lex_tr h1 h2⟩
/-- v: a tuple of the ints ns -/
def IsTI (h : Heap) (v : Value) (ns : List Int) : Prop := ∃ a o its n, v = .ref a ∧ h.get? a = some o ∧ o.cls = .type "tuple" ∧ o.data = .seq its n ∧ IntsAre its.toList ns
theorem IsTI.keeps {h h' : Heap} {v : Value} {ns : List Int} (p : IsTI h v ns) (k : ∀ b o, h.get? b = some o → o.cls = .type "tuple" → h'.get? b = some o) : IsTI h' v ns := by
  obtain ⟨a, o, its, n, e, ho, hc, hd⟩ := p
  exact ⟨a, o, its, n, e, k _ _ ho hc, hc, hd⟩
section
variable {prog : Program} {w : World} {A : Around} {s : Shared}
theorem lex_kat {fin : Bool} : ∀ {as bs : List Value} {ns ms : List Int} {i : Nat}, IntsAre as ns → IntsAre bs ms → fin = decide (ns.length < ms.length) → ∀ {Q : Bool → Shared → Prop}, Q (HT.lexLt ns ms) s → PySem.W.KatLex prog w A true fin Q (as.zip bs) i s
  | [], _, _, _, _, .nil, .nil, e, Q, h => by
    subst e
    exact PySem.W.kat_nil h
  | [], _ :: _, _, _, _, .nil, .cons m u h2, e, Q, h => by
    subst e
    exact PySem.W.kat_nil (by simpa [HT.lexLt_nil_cons] using h)
  | _ :: _, [], _, _, _, .cons n t h1, .nil, e, Q, h => by
    subst e
    exact PySem.W.kat_nil (by simpa [HT.lexLt_cons_nil] using h)
  | _ :: _, _ :: _, _, _, i, .cons n t h1, .cons m u h2, e, Q, h => by
    rw [List.zip_cons_cons]
    refine PySem.W.kat_cons (SeqAt.EqAt.int_int n t m u prog w _ _ ?_)
    refine PySem.W.kat_go (fun e1 => ?_) (fun e1 => ?_)
    · have ex : n = m := by simpa using e1
      refine PySem.W.kat_yes (lex_kat h1 h2 (by rw [e]; simp) ?_)
      rw [HT.lexLt_cons, if_pos ex] at h
      exact h
    · have ex : ¬ n = m := by simpa using e1
      rw [HT.lexLt_cons, if_neg ex] at h
      exact PySem.W.kat_no (TS.oneLt_ints _ h)
theorem tupI_cmp {vs : List Value} {k : Value → List Int} (hp : ∀ v ∈ vs, IsTI s.heap v (k v)) : SrtO.Cmp prog w A s (tuples' true) (fun p => p.1 ∈ vs) (SrtO.lt2 fun v u => HT.lexLt (k v) (k u)) := by
  intro p q hm hm'
  obtain ⟨a, o, its, n, e, ho, hc, hd, hi⟩ := hp _ hm
  obtain ⟨a', o', its', n', e', ho', hc', hd', hi'⟩ := hp _ hm'
  show wpAny (model prog w) A (keyLt' (tuples' true) p.1 q.1) (fun r s' => s' = s ∧ r = HT.lexLt (k p.1) (k q.1)) (fun _ _ => False) s
  rw [e] at hi ⊢
  rw [e'] at hi' ⊢
  refine PySem.W.kat_lt ho hd ho' hd' (lex_kat hi hi' ?_ ⟨rfl, rfl⟩)
  have l1 := hi.length
  have l2 := hi'.length
  rw [Array.length_toList] at l1 l2
  rw [l1, l2]
theorem tupI_firsts {h : Heap} {k : Value → List Int} : ∀ {vs : List Value}, (∀ v ∈ vs, IsTI h v (k v) ∧ k v ≠ []) → ∃ fs : List Value, PySem.W.KatTups h vs fs ∧ fs.length = vs.length ∧ ∀ f ∈ fs, ∃ x t, f = Value.int x t
  | [], _ => ⟨[], PySem.W.KatTups.nil, rfl, fun _ hm => by simp at hm⟩
  | v :: vs, hp => by
    obtain ⟨fs, h1, h2, h3⟩ := tupI_firsts (vs := vs) fun v' hm => hp v' (List.mem_cons_of_mem _ hm)
    obtain ⟨⟨a, o, its, n, e, ho, hc, hd, hi⟩, ne⟩ := hp v List.mem_cons_self
    obtain ⟨y, ys, ey⟩ : ∃ y ys, its.toList = y :: ys := by
      cases q : its.toList with
      | nil =>
        rw [q] at hi
        have l := hi.length
        exact absurd (List.length_eq_zero_iff.mp l.symm) ne
      | cons y ys => exact ⟨y, ys, rfl⟩
    obtain ⟨m, t, hy⟩ := hi.all y (by rw [ey]; exact List.mem_cons_self)
    subst e
    refine ⟨y :: fs, PySem.W.KatTups.cons ho hc hd ?_ h1, by simp [h2], fun f hf => ?_⟩
    · have z := congrArg (fun l : List Value => l[0]?) ey
      simpa using z
    · rcases List.mem_cons.mp hf with rfl | hf
      · exact ⟨m, t, hy⟩
      · exact h3 f hf
theorem tupI_sortable {a : Addr} {vs : List Value} {k : Value → List Int} (h0 : 0 < vs.length) (hp : ∀ v ∈ vs, IsTI s.heap v (k v) ∧ k v ≠ []) (ha : ∀ o, s.heap.get? a = some o → o.cls ≠ .type "tuple") : SrtO.SortableO prog w A s a vs fun v u => HT.lexLt (k v) (k u) := by
  intro h' keep
  have hp' : ∀ v ∈ vs, IsTI h' v (k v) ∧ k v ≠ [] := fun v hm => ⟨(hp v hm).1.keeps fun b o e c => keep b o (fun z => by subst z; exact ha o e c) e, (hp v hm).2⟩
  obtain ⟨fs, h1, h2, h3⟩ := tupI_firsts hp'
  refine ⟨tuples' true, fun Q E hq => ?_, tupI_cmp fun v hm => (hp' v hm).1⟩
  refine PySem.W.kat_kind (T := .type "int") h1 (by omega) (fun f hm => ?_) (by rfl) ?_
  · obtain ⟨x, t, rfl⟩ := h3 f hm
    exact PySem.W.Looks.now
  · have e : (Value.type "int" != Value.type "tuple") = true := by first | decide +kernel | rfl | decide
    rw [e]
    exact hq
theorem sorted_tupI {E : Value → Shared → Prop} {l : Addr} {vs : List Value} {k : Value → List Int} {Q : Value → Shared → Prop} (hl : s.heap.IsList l vs.toArray) (hz : vs.length ≤ sizeLine) (hp : ∀ v ∈ vs, IsTI s.heap v (k v) ∧ k v ≠ [])
    (h : ∀ (h' : Heap) (d : Addr) (out : List Value), SrtO.Srtd (fun v u => HT.lexLt (k v) (k u)) out → SrtO.Stb (fun v u => HT.lexLt (k v) (k u)) out vs → (∀ b o, s.heap.get? b = some o → h'.get? b = some o) → s.heap.objs.size ≤ d → (∃ n, h'.get? d = some (seqObj "list" out.toArray n)) → Q (.ref d) { s with heap := h' }) :
    wpAny (model prog w) A (call (.builtin "sorted") [.ref l]) Q E s := by
  refine SrtO.sorted_ord (lex_swo k) hl hz (fun h2 h₁ a ha kk => ?_) fun out hs hb => ?_
  · refine tupI_sortable (s := { s with heap := h₁ }) (by omega) (fun v hm => ⟨(hp v hm).1.keeps fun b o e _ => (kk b o e).2, (hp v hm).2⟩) fun o e => ?_
    have e' : some o = some (seqObj "list" vs.toArray 0) := e.symm.trans ha
    cases e'
    intro c
    exact absurd (Value.type.inj c) (by decide)
  · exact h _ _ out hs hb (fun b o e => PyProof.Rows.sortedAll_old e) (Nat.le_succ _) (PyProof.Rows.sortedAll_at s.heap vs out.toArray)
end
theorem lex_anti : ∀ {x y : List Int}, HT.lexLt x y = false → HT.lexLt y x = false → x = y
  | [], [], _, _ => rfl
  | [], _ :: _, h, _ => by cases h
  | _ :: _, [], _, h => by cases h
  | x :: xs, y :: ys, h1, h2 => by
    rw [HT.lexLt_cons] at h1 h2
    by_cases e : x = y
    · subst e
      rw [if_pos rfl] at h1 h2
      rw [lex_anti h1 h2]
    · rw [if_neg e, decide_eq_false_iff_not] at h1
      rw [if_neg fun z => e z.symm, decide_eq_false_iff_not] at h2
      omega
abbrev leL (x y : List Int) : Prop := HT.lexLt y x = false
theorem lex_same : ∀ {a b : List (List Int)}, a.Pairwise leL → b.Pairwise leL → a.Perm b → a = b
  | [], b, _, _, h => (List.Perm.eq_nil h.symm).symm
  | x :: a, [], _, _, h => absurd h.length_eq (by simp)
  | x :: a, y :: b, ha, hb, h => by
    obtain ⟨ha1, ha2⟩ := List.pairwise_cons.mp ha
    obtain ⟨hb1, hb2⟩ := List.pairwise_cons.mp hb
    have e : x = y := by
      rcases List.mem_cons.mp (h.mem_iff.mp (List.mem_cons_self (a := x) (l := a))) with e | hx
      · exact e
      · rcases List.mem_cons.mp (h.mem_iff.mpr (List.mem_cons_self (a := y) (l := b))) with e | hy
        · exact e.symm
        · exact lex_anti (hb1 x hx) (ha1 y hy)
    subst e
    rw [lex_same ha2 hb2 h.cons_inv]
def insL (x : List Int) : List (List Int) → List (List Int)
  | [] => [x]
  | y :: ys => if HT.lexLt y x = true then y :: insL x ys else x :: y :: ys
def sortL : List (List Int) → List (List Int)
  | [] => []
  | x :: xs => insL x (sortL xs)
theorem insL_perm (x : List Int) : ∀ ys, (insL x ys).Perm (x :: ys)
  | [] => .refl _
  | y :: ys => by
    rw [insL]
    split
    · exact ((insL_perm x ys).cons y).trans (.swap x y ys)
    · exact .refl _
theorem sortL_perm : ∀ xs, (sortL xs).Perm xs
  | [] => .refl _
  | x :: xs => (insL_perm x _).trans ((sortL_perm xs).cons x)
theorem insL_sorted (x : List Int) : ∀ {ys : List (List Int)}, ys.Pairwise leL → (insL x ys).Pairwise leL
  | [], _ => List.pairwise_singleton _ _
  | y :: ys, h => by
    obtain ⟨h1, h2⟩ := List.pairwise_cons.mp h
    rw [insL]
    split
    · rename_i c
      refine List.pairwise_cons.mpr ⟨fun z hz => ?_, insL_sorted x h2⟩
      rcases List.mem_cons.mp ((insL_perm x ys).mem_iff.mp hz) with rfl | hz
      · exact lex_asym c
      · exact h1 z hz
    · rename_i c
      have c : HT.lexLt y x = false := by simpa using c
      refine List.pairwise_cons.mpr ⟨fun z hz => ?_, h⟩
      rcases List.mem_cons.mp hz with rfl | hz
      · exact c
      · exact lex_tr c (h1 z hz)
theorem sortL_sorted : ∀ xs, (sortL xs).Pairwise leL
  | [] => .nil
  | x :: xs => insL_sorted x (sortL_sorted xs)
theorem sortL_eq {xs ys : List (List Int)} (h : ys.Perm xs) (s : ys.Pairwise leL) : ys = sortL xs := lex_same s (sortL_sorted xs) (h.trans (sortL_perm xs).symm)
/-! as a rule of the layer -/
def rSortLT (K : PySem.W.Frag) : List V → Hp → VK → Prop := fun vs H Q => ∃ (a : Addr) (xs : List V) (k : V → List Int), vs = [V.ref a] ∧ SqL K H a xs ∧ (∀ x ∈ xs, k x ≠ [] ∧ ∃ t, x = V.ref t ∧ H t = some (.tup ((k x).map V.int))) ∧
  ∀ ys p, SrtO.Srtd (fun v u => HT.lexLt (k v) (k u)) ys → SrtO.Stb (fun v u => HT.lexLt (k v) (k u)) ys xs → H p = none → Q (.ref p) (upd H p (.lst ys))
section
variable {X : Cx}
theorem cr_sortLT : CallR X (.builtin "sorted") (rSortLT X.K) := by
  intro pins s σ H vs us Q I r h
  obtain ⟨a, xs, k, rfl, hs, hx, q⟩ := h
  obtain ⟨its, rv, hl, hz⟩ := I.list hs
  obtain ⟨u, rfl, ru⟩ := vals1 r
  obtain rfl : u = Value.ref a := ru
  obtain ⟨e1, e2⟩ := refs_back rv fun x m => by
    obtain ⟨_, t, e, _⟩ := hx x m
    exact ⟨t, e⟩
  refine sorted_tupI (k := fun u => k (backV u)) hl.isList (by rw [← rv.length]; exact hz) (fun v hv => ?_) fun h' d out h1 h2 kp hd hn => ?_
  · obtain ⟨t, rfl⟩ := e2 v hv
    have hm : V.ref t ∈ xs := by rw [e1]; exact List.mem_map.mpr ⟨_, hv, rfl⟩
    obtain ⟨ne, t', e, ht⟩ := hx _ hm
    cases e
    obtain ⟨_, its2, r2, o, ho, hc, n, hd⟩ := I.hok _ _ ht
    exact ⟨⟨t, o, _, n, rfl, ho, hc, hd, by simpa [backV] using r2.ints⟩, by simpa [backV] using ne⟩
  · have h3 : ∀ u ∈ out, ∃ a, u = Value.ref a := fun u hu => e2 u (h2.perm.mem_iff.mp hu)
    obtain ⟨n, hn⟩ := hn
    have hb : SrtO.Stb (fun v u => HT.lexLt (k v) (k u)) (out.map backV) xs := by
      rw [e1]
      exact SrtO.Stb.map (lex_swo k) backV h2
    refine ⟨.ref d, upd H d (.lst (out.map backV)), I.laid (t' := s.toks) kp hd ⟨?_, out, n, vals_back h3, hn⟩, rfl, q _ d (SrtO.srtd_map h1) hb (I.hok.fresh hd)⟩
    rw [hb.len]
    exact hz
end
def tiOf : D → Option (List Int)
  | .tup xs => (intsOf xs).bind fun ns => if ns = [] then none else some ns
  | _ => none
def tisOf : List D → Option (List (List Int))
  | [] => some []
  | d :: ds => (tiOf d).bind fun p => (tisOf ds).map (p :: ·)
def opSortT : List D → Option D
  | [.lst _ xs] => (tisOf xs).map fun nss => .lst true ((sortL nss).map fun ns => .tup (ns.map .int))
  | _ => none
def vInts : List V → List Int := List.filterMap fun v => match v with | .int i => some i | _ => none
theorem vInts_map (ns : List Int) : vInts (ns.map V.int) = ns := by
  induction ns with
  | nil => rfl
  | cons n ns ih => rw [List.map_cons]; show n :: vInts _ = _; rw [ih]
/-- the ints that a value stands for -/
def hTI (H : Hp) : V → List Int
  | .ref t => match H t with
    | some (.tup vs) => vInts vs
    | _ => []
  | _ => []
theorem ints_fp {S : Gs} {H Hs : Hp} : ∀ {ds : List D} {ns : List Int} {vs : List V} {G : List Addr}, RpL S H Hs ds vs G → intsOf ds = some ns → G = []
  | [], _, _, _, r, _ => by cases r; rfl
  | d :: ds, ns, _, _, r, e => by
    cases r with
    | cons h r =>
      cases d with
      | int i =>
        obtain ⟨m, e1, _⟩ := Option.map_eq_some_iff.mp (show (intsOf ds).map (i :: ·) = some ns from e)
        rw [ints_fp r e1]
        cases h
        rfl
      | _ => cases e
theorem tis_rp {S : Gs} {H Hs : Hp} (hs : ∀ b o, Hs b = some o → H b = some o) : ∀ {ds : List D} {nss : List (List Int)} {vs : List V} {G : List Addr}, RpL S H Hs ds vs G → tisOf ds = some nss →
    G = [] ∧ vs.map (hTI H) = nss ∧ ∀ v ∈ vs, hTI H v ≠ [] ∧ ∃ t, v = V.ref t ∧ Hs t = some (.tup ((hTI H v).map V.int))
  | [], nss, _, _, r, e => by cases r; cases e; simp
  | d :: ds, nss, _, _, r, e => by
    obtain ⟨p, e1, e2⟩ := Option.bind_eq_some_iff.mp (show (tiOf d).bind (fun p => (tisOf ds).map (p :: ·)) = some nss from e)
    obtain ⟨m, e3, rfl⟩ := Option.map_eq_some_iff.mp e2
    cases r with
    | cons h r =>
      obtain ⟨g, k1, k2⟩ := tis_rp hs r e3
      subst g
      cases d with
      | tup xs =>
        obtain ⟨ns, f1, f2⟩ := Option.bind_eq_some_iff.mp (show (intsOf xs).bind (fun ns => if ns = [] then none else some ns) = some p from e1)
        split at f2
        · cases f2
        · rename_i ne
          cases f2
          cases h with
          | tup ha rr =>
            have ev := intsOf_rp rr f1
            have ef := ints_fp rr f1
            subst ev
            subst ef
            rename_i a
            have ek : hTI H (V.ref a) = p := by unfold hTI; simp [hs _ _ ha, vInts_map]
            refine ⟨rfl, by rw [List.map_cons, ek, k1], fun v hv => ?_⟩
            rcases List.mem_cons.mp hv with rfl | hv
            · rw [ek]; exact ⟨ne, a, rfl, ha⟩
            · exact k2 v hv
      | _ => cases e1
theorem rp_tis {S : Gs} {H Hs H' Hs' : Hp} (k : ∀ b o, Hs b = some o → Hs' b = some o) : ∀ {vs : List V}, (∀ v ∈ vs, ∃ t, v = V.ref t ∧ Hs t = some (.tup ((hTI H v).map V.int))) →
    RpL S H' Hs' ((vs.map (hTI H)).map fun ns => D.tup (ns.map .int)) vs []
  | [], _ => .nil
  | v :: vs, h => by
    obtain ⟨t, e, ht⟩ := h v List.mem_cons_self
    refine .cons0 ?_ (rp_tis k fun w hw => h w (List.mem_cons_of_mem _ hw))
    have : Rp S H' Hs' (D.tup ((hTI H v).map .int)) (V.ref t) [] := .tup (k _ _ ht) (ints_rpl _)
    rwa [← e] at this
section
variable {B : Bs}
theorem opSortT_S {K : PySem.W.Frag} : OpS B (rSortLT K) opSortT := by
  intro T ts ρ σ H F ps ds vs Q d h o e q
  unfold opSortT at e
  split at e
  · obtain ⟨v1, G1, rfl, r1⟩ := o.one h
    obtain ⟨a, vs, G', rfl, ha, ra⟩ := seqR_lst r1
    have hid_sub : ∀ b o, hid (B.M ++ F) H b = some o → H b = some o := fun _ _ z => (hid_some z).2
    obtain ⟨pr, e1, e2⟩ := Option.map_eq_some_iff.mp e
    subst e2
    obtain ⟨g, ek, k⟩ := tis_rp hid_sub ra e1
    refine ⟨a, vs, hTI H, rfl, SqL.of ha, fun v hv => ?_, fun ys p so st hp => ?_⟩
    · obtain ⟨ne, t, et, ht⟩ := k v hv
      exact ⟨ne, t, et, hid_sub _ _ ht⟩
    · have en : ys.map (hTI H) = sortL pr := sortL_eq (by rw [← ek]; exact st.perm.map _) (List.pairwise_map.mpr so)
      have z : R B (T ++ [(D.lst true ((ys.map (hTI H)).map fun ns => D.tup (ns.map .int)), .ref p)]) ρ σ (upd H p (.lst ys)) (p :: F) := h.drop.newL (rp_tis (fun _ _ e => e) fun v hv => (k v (st.perm.mem_iff.mp hv)).2) hp (by
        rw [st.perm.length_eq]
        exact h.hl _ _ (.inl ha))
      rw [en] at z
      exact q _ _ _ z
  · cases e
theorem tisOf_map : ∀ {nss : List (List Int)}, (∀ ns ∈ nss, ns ≠ []) → tisOf (nss.map fun ns => .tup (ns.map .int)) = some nss
  | [], _ => rfl
  | ns :: nss, h => by
    have h1 := h ns List.mem_cons_self
    rw [List.map_cons, tisOf, tisOf_map fun n hn => h n (List.mem_cons_of_mem _ hn)]
    simp [tiOf, h1]
theorem opSortT_t {o : Bool} {nss : List (List Int)} (h : ∀ ns ∈ nss, ns ≠ []) : opSortT [.lst o (nss.map fun ns => .tup (ns.map .int))] = some (.lst true ((sortL nss).map fun ns => .tup (ns.map .int))) := by
  simp [opSortT, tisOf_map h]
end
end Fw

/- part CmD -/
namespace Cm
open PySem Fw L2
def g_law_tree_net : En → Out Fl := (sqS (sAs 2 (evLst [])) (sqS (sAs 3 (evLst [])) (sqS (sFor (itRg [(.val (evOp [(.var 1), (.val (evC (.int 1)))] opSub))]) (tgN 4) (sqS (sAs 5 (evOp [(.val (evOp [(.var 2)] opLen)), (.val (evOp [(.val (evLst [(evC (.int 0)), (evC (.int 0)), (evC (.int 1)), (evC (.int 2)), (evC (.int 2)), (evC (.int 3))])), (.val (evCall takeD [(.var 0), (.val (evC (.int 6)))]))] opIxA))] opMin2)) (sqS (sMe1 moApp 3 (evOp [(.val (evSl (.var 2) (some (evOp [(.val (evOp [(.var 2)] opLen)), (.var 5)] opSub)) none))] opTuple)) (sAs 2 (evOp [(.val (evSl (.var 2) none (some (evOp [(.val (evOp [(.var 2)] opLen)), (.var 5)] opSub)))), (.val (evLst [(evVar 4)]))] opAdd)))) [4, 5]) (sRet (evOp [(.val (evOp [(.var 3), (.val (evLst [(evOp [(.var 2)] opTuple)]))] opAdd))] opTuple)))))
def d_law_tree_net : Den := fnRes g_law_tree_net 4
def g_law_some_needs : En → Out Fl := (sqS (sAs 2 (evLst [])) (sqS (sFor (itRg [(.val (evCall takeD [(.var 0), (.val (evC (.int 5)))]))]) (tgN 3) (sqS (sAs 4 (evOp [(.val (evLst [(evOp [(.var 1), (.val (evC (.int 4)))] opMin2), (evVar 1)])), (.val (evOp [(.val (evCall takeD [(.var 0), (.val (evC (.int 4)))])), (.val (evC (.int 3)))] opFd))] opIxA)) (sIf (evTOp [(.var 1), (.val (evC (.int 0)))] opGt) (sMe1 moApp 2 (evOp [(.val (evOp [(.var 1), (.val (evC (.int 1)))] opSub)), (.val (evCall takeD [(.var 0), (.var 4)]))] opSub)) nxS)) [3, 4]) (sRet (evOp [(.val (evOp [(.var 2)] opSSet))] opTuple))))
def d_law_some_needs : Den := fnRes g_law_some_needs 3
def g_law_net : En → Out Fl := (sqS (sAs 2 (evCall takeD [(.var 0), (.val (evC (.int 8)))])) (sqS (sAs 3 (evOp [(.val (evC (.int 1))), (.val (evCall takeD [(.var 0), (.val (evC (.int 4)))]))] opAdd)) (sqS (sIf (evTOp [(.var 2), (.val (evC (.int 0)))] opEq) (sRet (evOp [(.val (evLc (itRg [(.var 1)]) (tgN 4) evYes (evOp [(.val (evOp [(.val (evC (.int 0))), (.val (evOp [(.var 4), (.var 3)] opSub))] opMax2)), (.var 4)] opRgT2) [4]))] opTuple)) nxS) (sqS (sIf (evTOp [(.var 2), (.val (evC (.int 1)))] opEq) (sqS (sAs 5 (evLc (itRg [(.var 1)]) (tgN 4) evYes (evOp [(.val (evOp [(.val (evLst [(evOp [(.var 4), (.var 3)] opSub)])), (.val (evOp [(.val (evOp [(.var 4), (.var 3)] opGe))] opInt))] opMul)), (.val (evOp [(.val (evLst [(evOp [(.var 4), (.val (evC (.int 1)))] opSub)])), (.val (evOp [(.val (evOp [(.val (evOp [(.var 4), (.var 3)] opMd)), (.val (evC (.int 0)))] opGt))] opInt))] opMul))] opAdd) [4])) (sRet (evOp [(.val (evLc (itSeq (evVar 5)) (tgN 6) evYes (evOp [(.val (evOp [(.var 6)] opSSet))] opTuple) [6]))] opTuple))) nxS) (sqS (sIf (evTOp [(.var 2), (.val (evC (.int 2)))] opEq) (sRet (evCall Cm.d_law_tree_net [(.var 0), (.var 1)])) nxS) (sqS (sIf (evTOp [(.var 2), (.val (evC (.int 3)))] opEq) (sqS (sAs 7 (evOp [(.var 1), (.val (evC (.int 2)))] opFd)) (sqS (sAs 5 (evLc (itRg [(.var 1)]) (tgN 4) evYes (evCall Cm.d_law_some_needs [(.var 0), (.val (evIf (evTOp [(.var 4), (.var 7)] opLt) (evVar 4) (evOp [(.var 4), (.var 7)] opSub)))]) [4])) (sRet (evOp [(.val (evLc (itEnV (evVar 5)) (tgT [4, 6]) evYes (evIf (evTOp [(.var 4), (.var 7)] opLt) (evVar 6) (evOp [(.val (evLc (itSeq (evVar 6)) (tgN 8) evYes (evOp [(.var 8), (.var 7)] opAdd) [8]))] opTuple)) [4, 6]))] opTuple)))) nxS) (sRet (evOp [(.val (evLc (itRg [(.var 1)]) (tgN 4) evYes (evCall Cm.d_law_some_needs [(.var 0), (.var 4)]) [4]))] opTuple))))))))
def d_law_net : Den := fnRes g_law_net 7
def g_law_many : En → Out Fl := (sqS (sAs 2 (evCall takeD [(.var 0), (.val (evC (.int 8)))])) (sqS (sIf (evTOp [(.var 2), (.val (evC (.int 0)))] opEq) (sRet (evOp [(.var 1), (.val (evCall takeD [(.var 0), (.val (evOp [(.var 1), (.val (evC (.int 2)))] opFd))]))] opSub)) nxS) (sRet (evOp [(.val (evLst [(evOp [(.val (evC (.int 1))), (.val (evCall takeD [(.var 0), (.val (evC (.int 2)))]))] opAdd), (evC (.int 3)), (evC (.int 4)), (evC (.int 5)), (evC (.int 6)), (evC (.int 7)), (evOp [(.val (evC (.int 8))), (.val (evCall takeD [(.var 0), (.val (evC (.int 2)))]))] opAdd)])), (.val (evOp [(.var 2), (.val (evC (.int 1)))] opSub))] opIxA))))
def d_law_many : Den := fnRes g_law_many 1
def g_users_of : En → Out Fl := (sRet (evLc (itRg [(.val (evOp [(.var 1), (.val (evC (.int 1)))] opAdd)), (.val (evOp [(.var 0)] opLen))]) (tgN 2) (evTOp [(.var 1), (.val (evOp [(.var 0), (.var 2)] opIxA))] (opIn false)) (evVar 2) [2]))
def d_users_of : Den := fnRes g_users_of 1
def g_law_same (me : Den) : En → Out Fl := (sqS (sIf (evTOp [(.var 1), (.val (evC .non))] opIsN) (sRet (evOp [(.var 0), (.val (evC .non))] opIsN)) nxS) (sqS (sIf (evTOr (evT (evOp [(.var 1)] (opIsi .list))) (evT (evOp [(.var 1)] (opIsi .tuple)))) (sqS (sIf (evTOp [(.val (evOp [(.var 0)] (opIsi .list))), (.val (evOp [(.var 1)] (opIsi .list)))] opNe) (sRet (evC (.bl false))) nxS) (sqS (sIf (evTOr (evTOp [(.val (evOp [(.var 0)] (opIsi .tuple))), (.val (evOp [(.var 1)] (opIsi .tuple)))] opNe) (evTOp [(.val (evOp [(.var 0)] opLen)), (.val (evOp [(.var 1)] opLen))] opNe)) (sRet (evC (.bl false))) nxS) (sRet (evOp [(.val (evLc (itZip (evVar 0) (evVar 1)) (tgT [2, 3]) evYes (evCall me [(.var 2), (.var 3)]) [2, 3]))] opAll)))) nxS) (sqS (sIf (evT (evOp [(.var 1)] (opIsi .str))) (sRet (evAnd (evOp [(.var 0)] (opIsi .str)) (evOp [(.var 0), (.var 1)] opEq))) nxS) (sRet (evAnd (evOp [(.var 0)] (opIsi .int)) (evAnd (evNot (evOp [(.var 0)] (opIsi .bool))) (evOp [(.var 0), (.var 1)] opEq)))))))
def d_law_same_at : Nat → Den
  | 0 => fun _ _ => .no
  | k + 1 => fnRes (g_law_same (d_law_same_at k)) 2
def d_law_same : Den := d_law_same_at 40
def g_ends_of : En → Out Fl := (sqS (sAs 1 (evOp [(.val (evLst [(evC (.bl false))])), (.val (evOp [(.var 0)] opLen))] opMul)) (sqS (sFor (itSeq (evVar 0)) (tgN 2) (sFor (itSeq (evVar 2)) (tgN 3) (sSet 1 (evVar 3) (evC (.bl true))) [3]) [2, 3]) (sRet (evLc (itRg [(.val (evOp [(.var 0)] opLen))]) (tgN 4) (evTNot (evT (evOp [(.var 1), (.var 4)] opIxA))) (evVar 4) [4]))))
def d_ends_of : Den := fnRes g_ends_of 4
def g_law_some_net : En → Out Fl := (sRet (evCall Cm.d_law_net [(.var 0), (.val (evIf (evTOp [(.val (evCall takeD [(.var 0), (.val (evC (.int 8)))])), (.val (evC (.int 0)))] opEq) (evOp [(.val (evC (.int 30))), (.val (evCall takeD [(.var 0), (.val (evC (.int 31)))]))] opAdd) (evOp [(.val (evC (.int 1))), (.val (evCall takeD [(.var 0), (.val (evC (.int 9)))]))] opAdd)))]))
def d_law_some_net : Den := fnRes g_law_some_net 0
def g_law_stand : En → Out Fl := (sqS (sAs 3 (evLst [])) (sqS (sIf (evTOp [(.val (evCall takeD [(.var 0), (.val (evC (.int 2)))])), (.val (evC (.int 0)))] opEq) (sAs 3 (evSl (.val (evOp [(.val (evOp [(.var 1), (.val (evCall takeD [(.var 0), (.val (evOp [(.var 1)] opLen))]))] opIxA))] opList)) none (some (evVar 2)))) nxS) (sqS (sFor (itRg [(.val (evCall takeD [(.var 0), (.val (evOp [(.val (evOp [(.var 2), (.val (evOp [(.var 1)] opLen))] opMin2)), (.val (evC (.int 1)))] opAdd))]))]) (tgN 4) (sqS (sAs 5 (evCall takeD [(.var 0), (.val (evOp [(.var 1)] opLen))])) (sIf (evTAnd (evTOp [(.var 5), (.var 3)] (opIn true)) (evTOp [(.val (evOp [(.var 3)] opLen)), (.var 2)] opLt)) (sMe1 moApp 3 (evVar 5)) nxS)) [4, 5]) (sRet (evOp [(.val (evOp [(.var 3)] opSort))] opTuple)))))
def d_law_stand : Den := fnRes g_law_stand 3
def g_law_word : En → Out Fl := (sqS (sIf (evTOp [(.val (evOp [(.var 3), (.val (evC (.int 0)))] opIxA)), (.val (evC (.str "clear")))] opEq) (sRet (evIf (evTOp [(.val (evOp [(.var 3), (.val (evC (.int 1)))] opIxA)), (.var 2)] (opIn false)) (evC .non) (evC (.str "empty")))) nxS) (sqS (sIf (evTOp [(.val (evOp [(.var 3), (.val (evC (.int 1)))] opIxA)), (.var 2)] (opIn false)) (sRet (evC (.str "there"))) nxS) (sqS (sIf (evTNot (evT (evOp [(.val (evLc (itSeq (evOp [(.var 0), (.val (evOp [(.var 3), (.val (evC (.int 1)))] opIxA))] opIxA)) (tgN 4) evYes (evOp [(.var 4), (.var 2)] (opIn false)) [4]))] opAll))) (sRet (evC (.str "needs"))) nxS) (sRet (evIf (evTOp [(.val (evOp [(.var 2)] opLen)), (.var 1)] opGe) (evC (.str "full")) (evC .non))))))
def d_law_word : Den := fnRes g_law_word 1
def g_fault_of : En → Out Fl := (sqS (sAsT (tgT [4, 5]) (evVar 3)) (sqS (sAs 6 (evOp [(.var 5), (.var 2)] (opIn false))) (sqS (sIf (evTOp [(.var 4), (.val (evC (.str "clear")))] opEq) (sRet (evIf (evT (evVar 6)) (evC .non) (evC (.str "empty")))) nxS) (sqS (sIf (evT (evVar 6)) (sRet (evC (.str "there"))) nxS) (sqS (sIf (evTNot (evT (evOp [(.val (evLc (itSeq (evOp [(.var 0), (.var 5)] opIxA)) (tgN 7) evYes (evOp [(.var 7), (.var 2)] (opIn false)) [7]))] opAll))) (sRet (evC (.str "needs"))) nxS) (sRet (evIf (evTOp [(.val (evOp [(.var 2)] opLen)), (.var 1)] opLt) (evC .non) (evC (.str "full")))))))))
def d_fault_of : Den := fnRes g_fault_of 4
def g_moves_of : En → Out Fl := (sqS (sAs 3 (evOp [(.val (evLc (itRg [(.val (evOp [(.var 0)] opLen))]) (tgN 4) evYes (evTup [(evC (.str "do")), (evVar 4)]) [4])), (.val (evLc (itRg [(.val (evOp [(.var 0)] opLen))]) (tgN 4) evYes (evTup [(evC (.str "clear")), (evVar 4)]) [4]))] opAdd)) (sRet (evLc (itSeq (evVar 3)) (tgN 5) (evTOp [(.val (evCall Cm.d_fault_of [(.var 0), (.var 1), (.var 2), (.var 5)])), (.val (evC .non))] opIsN) (evVar 5) [5])))
def d_moves_of : Den := fnRes g_moves_of 3
def g_law_some_move : En → Out Fl := (sqS (sAs 3 (evOp [(.val (evLst [(evC (.str "do")), (evC (.str "do")), (evC (.str "do")), (evC (.str "clear"))])), (.val (evCall takeD [(.var 0), (.val (evC (.int 4)))]))] opIxA)) (sqS (sAs 4 (evLc (itRg [(.val (evOp [(.var 1)] opLen))]) (tgN 5) (evT (evOp [(.val (evLc (itSeq (evOp [(.var 1), (.var 5)] opIxA)) (tgN 6) evYes (evOp [(.var 6), (.var 2)] (opIn false)) [6]))] opAll)) (evVar 5) [5])) (sqS (sAs 7 (evIxT (evLst [(evOp [(.val (evOp [(.var 1)] opLen))] opRgL1), (evOp [(.var 2)] opList), (evLc (itSeq (evVar 4)) (tgN 5) (evTOp [(.var 5), (.var 2)] (opIn true)) (evVar 5) [5])]) (evCall takeD [(.var 0), (.val (evC (.int 3)))]))) (sqS (sIf (evTOp [(.var 7), (.val (evLst []))] opEq) (sAs 7 (evOp [(.val (evOp [(.var 1)] opLen))] opRgL1)) nxS) (sRet (evTup [(evVar 3), (evOp [(.var 7), (.val (evCall takeD [(.var 0), (.val (evOp [(.var 7)] opLen))]))] opIxA)]))))))
def d_law_some_move : Den := fnRes g_law_some_move 5
def g_law_asked : En → Out Fl := (sqS (sAs 2 (evLst [(evOp [(.val (evOp [(.val (evOp [(.var 1)] opLen)), (.val (evC (.int 1)))] opSub)), (.val (evCall takeD [(.var 0), (.val (evOp [(.val (evOp [(.var 1)] opLen)), (.val (evC (.int 3)))] opMin2))]))] opSub)])) (sqS (sFor (itRg [(.val (evOp [(.val (evLst [(evC (.int 0)), (evC (.int 0)), (evC (.int 1)), (evC (.int 3))])), (.val (evCall takeD [(.var 0), (.val (evC (.int 4)))]))] opIxA))]) (tgN 3) (sMe1 moApp 2 (evCall takeD [(.var 0), (.val (evOp [(.var 1)] opLen))])) [3]) (sRet (evOp [(.val (evOp [(.var 2)] opSSet))] opTuple))))
def d_law_asked : Den := fnRes g_law_asked 2
def g_law_beneath : En → Out Fl := (sqS (sAs 2 evNewK) (sqS (sAs 3 (evOp [(.var 1)] opList)) (sqS (whL (evTOp [(.var 3), (.val (evLst []))] opNe) (sqS (sAs 4 (evPop 3)) (sIf (evTOp [(.var 4), (.var 2)] (opIn true)) (sqS (sSet 2 (evVar 4) (evC (.bl true))) (sMe1 moExt 3 (evOp [(.var 0), (.var 4)] opIxA))) nxS)) [4] 1000000) (sRet (evOp [(.var 2)] opSort)))))
def d_law_beneath : Den := fnRes g_law_beneath 3
def g_all_needed : En → Out Fl := (sqS (sAs 2 (evOp [(.val (evLst [(evC (.bl false))])), (.val (evOp [(.var 0)] opLen))] opMul)) (sqS (sFor (itSeq (evVar 1)) (tgN 3) (sSet 2 (evVar 3) (evC (.bl true))) [3]) (sqS (sFor (itRgC [(.val (evOp [(.val (evOp [(.var 0)] opLen)), (.val (evC (.int 1)))] opSub)), (.val (evOp [(.val (evC (.int 1)))] opNeg)), (.val (evOp [(.val (evC (.int 1)))] opNeg))]) (tgN 3) (sIf (evT (evOp [(.var 2), (.var 3)] opIxA)) (sFor (itSeq (evOp [(.var 0), (.var 3)] opIxA)) (tgN 4) (sSet 2 (evVar 4) (evC (.bl true))) [4]) nxS) [3, 4]) (sRet (evLc (itRg [(.val (evOp [(.var 0)] opLen))]) (tgN 3) (evT (evOp [(.var 2), (.var 3)] opIxA)) (evVar 3) [3])))))
def d_all_needed : Den := fnRes g_all_needed 3
def g_law_some_net_2 : En → Out Fl := (sqS (sAs 2 (evCall takeD [(.var 0), (.val (evC (.int 4)))])) (sqS (sIf (evTOr (evTOp [(.var 2), (.val (evC (.int 1)))] opGt) (evTOp [(.var 1), (.val (evC (.int 3)))] opLt)) (sRet (evCall Cm.d_law_net [(.var 0), (.var 1)])) nxS) (sqS (sAs 3 (evCall Cm.d_law_tree_net [(.var 0), (.var 1)])) (sqS (sIf (evTOp [(.var 2), (.val (evC (.int 0)))] opEq) (sqS (sAs 4 (evOp [(.val (evC (.int 1))), (.val (evCall takeD [(.var 0), (.val (evOp [(.var 1), (.val (evC (.int 1)))] opSub))]))] opAdd)) (sqS (sAs 5 (evOp [(.val (evOp [(.val (evOp [(.val (evOp [(.var 3), (.var 4)] opIxA)), (.val (evTup [(evCall takeD [(.var 0), (.var 4)])]))] opAdd))] opSSet))] opTuple)) (sAs 3 (evOp [(.val (evOp [(.val (evSl (.var 3) none (some (evVar 4)))), (.val (evTup [(evVar 5)]))] opAdd)), (.val (evSl (.var 3) (some (evOp [(.var 4), (.val (evC (.int 1)))] opAdd)) none))] opAdd)))) nxS) (sRet (evMove 3))))))
def d_law_some_net_2 : Den := fnRes g_law_some_net_2 4
def g_law_needed : En → Out Fl := (sqS (sAs 2 (evOp [(.val (evLst [(evC (.bl false))])), (.val (evOp [(.var 0)] opLen))] opMul)) (sqS (sFor (itRgC [(.val (evOp [(.val (evOp [(.var 0)] opLen)), (.val (evC (.int 1)))] opSub)), (.val (evOp [(.val (evC (.int 1)))] opNeg)), (.val (evOp [(.val (evC (.int 1)))] opNeg))]) (tgN 3) (sqS (sIf (evTOp [(.var 3), (.var 1)] (opIn false)) (sSet 2 (evVar 3) (evC (.bl true))) nxS) (sIf (evT (evOp [(.var 2), (.var 3)] opIxA)) (sFor (itSeq (evOp [(.var 0), (.var 3)] opIxA)) (tgN 4) (sSet 2 (evVar 4) (evC (.bl true))) [4]) nxS)) [3, 4]) (sRet (evLc (itRg [(.val (evOp [(.var 0)] opLen))]) (tgN 3) (evT (evOp [(.var 2), (.var 3)] opIxA)) (evVar 3) [3]))))
def d_law_needed : Den := fnRes g_law_needed 3
def g_law_is_one : En → Out Fl := (sqS (sAs 2 (evOp [(.val (evLst [(evC (.int 0))])), (.val (evOp [(.var 0)] opLen))] opMul)) (sqS (sFor (itSeq (evCall Cm.d_law_needed [(.var 0), (.val (evTup [(evVar 1)]))])) (tgN 3) (sFor (itSeq (evOp [(.var 0), (.var 3)] opIxA)) (tgN 4) (sSet 2 (evVar 4) (evOp [(.val (evOp [(.var 2), (.var 4)] opIxA)), (.val (evC (.int 1)))] opAdd)) [4]) [3, 4]) (sRet (evOp [(.val (evLc (itSeq (evCall Cm.d_law_needed [(.var 0), (.val (evTup [(evVar 1)]))])) (tgN 3) evYes (evOp [(.val (evOp [(.var 2), (.var 3)] opIxA)), (.val (evOp [(.val (evOp [(.var 3), (.var 1)] opNe))] opInt))] opEq) [3]))] opAll))))
def d_law_is_one : Den := fnRes g_law_is_one 3
def g_beside : En → Out Fl := (sqS (sAs 2 (evOp [(.var 0)] opLen)) (sRet (evOp [(.var 0), (.val (evOp [(.val (evLc (itSeq (evVar 1)) (tgN 3) evYes (evOp [(.val (evLc (itSeq (evVar 3)) (tgN 4) evYes (evOp [(.var 4), (.var 2)] opAdd) [4]))] opTuple) [3]))] opTuple))] opAdd)))
def d_beside : Den := fnRes g_beside 3
def g_law_put : En → Out Fl := (sqS (sAs 2 (evOp [(.var 0)] opList)) (sqS (sFor (itSeq (evVar 1)) (tgN 3) (sMe1 moApp 2 (evOp [(.val (evLc (itSeq (evVar 3)) (tgN 4) evYes (evOp [(.var 4), (.val (evOp [(.var 0)] opLen))] opAdd) [4]))] opTuple)) [3]) (sRet (evOp [(.var 2)] opTuple))))
def d_law_put : Den := fnRes g_law_put 3
def g_levels : En → Out Fl := (sqS (sAs 1 (evLst [])) (sqS (sFor (itSeq (evVar 0)) (tgN 2) (sMe1 moApp 1 (evOp [(.val (evOp [(.val (evLc (itSeq (evVar 2)) (tgN 3) evYes (evOp [(.val (evOp [(.var 1), (.var 3)] opIxA)), (.val (evC (.int 1)))] opAdd) [3])), (.val (evLst [(evC (.int 0))]))] opAdd))] opMaxL)) [2]) (sRet (evMove 1))))
def d_levels : Den := fnRes g_levels 3
def g_law_beside_right : En → Out Fl := (sqS (sAs 3 (evCall Cm.d_beside [(.var 1), (.var 2)])) (sqS (sIf (evTOr (evTNot (evT (evCall Cm.d_law_same [(.var 3), (.val (evCall Cm.d_law_put [(.var 1), (.var 2)]))]))) (evTOp [(.val (evCall Cm.d_levels [(.var 3)])), (.val (evOp [(.val (evCall Cm.d_levels [(.var 1)])), (.val (evCall Cm.d_levels [(.var 2)]))] opAdd))] opNe)) (sRet (evC (.bl false))) nxS) (sqS (sAs 4 (evCall takeD [(.var 0), (.val (evOp [(.var 2)] opLen))])) (sqS (sAs 5 (evOp [(.var 1)] opLen)) (sqS (sIf (evTOp [(.val (evCall Cm.d_users_of [(.var 3), (.val (evOp [(.var 5), (.var 4)] opAdd))])), (.val (evLc (itSeq (evCall Cm.d_users_of [(.var 2), (.var 4)])) (tgN 6) evYes (evOp [(.var 5), (.var 6)] opAdd) [6]))] opNe) (sRet (evC (.bl false))) nxS) (sRet (evOp [(.val (evCall Cm.d_all_needed [(.var 3), (.val (evTup [(evOp [(.var 5), (.var 4)] opAdd)]))])), (.val (evLc (itSeq (evCall Cm.d_all_needed [(.var 2), (.val (evTup [(evVar 4)]))])) (tgN 7) evYes (evOp [(.var 5), (.var 7)] opAdd) [7]))] opEq)))))))
def d_law_beside_right : Den := fnRes g_law_beside_right 5
def g_plan_in : En → Out Fl := (sqS (sAs 3 evNewK) (sqS (sFor (itEnV (evVar 2)) (tgT [4, 5]) (sFor (itSeq (evOp [(.var 0), (.var 5)] opIxA)) (tgN 6) (sSet 3 (evVar 6) (evVar 4)) [6]) [4, 5, 6]) (sqS (sAs 7 (evLst [])) (sqS (sFor (itEnV (evVar 2)) (tgT [4, 5]) (sqS (sMe1 moApp 7 (evTup [(evC (.str "do")), (evVar 5)])) (sMe1 moExt 7 (evLc (itSeq (evOp [(.var 0), (.var 5)] opIxA)) (tgN 6) (evTAnd (evTOp [(.val (evOp [(.var 3), (.var 6)] opIxA)), (.var 4)] opEq) (evTOp [(.var 6), (.var 1)] (opIn true))) (evTup [(evC (.str "clear")), (evVar 6)]) [6]))) [4, 5]) (sRet (evMove 7))))))
def d_plan_in : Den := fnRes g_plan_in 5
def g_plain_plan : En → Out Fl := (sRet (evCall Cm.d_plan_in [(.var 0), (.var 1), (.val (evCall Cm.d_all_needed [(.var 0), (.var 1)]))]))
def d_plain_plan : Den := fnRes g_plain_plan 0
def g_law_is_move : En → Out Fl := (sqS (sIf (evTOr (evTNot (evT (evOp [(.var 1)] (opIsi .tuple)))) (evTOr (evTOp [(.val (evOp [(.var 1)] opLen)), (.val (evC (.int 2)))] opNe) (evTOp [(.val (evOp [(.var 1), (.val (evC (.int 0)))] opIxA)), (.val (evTup [(evC (.str "do")), (evC (.str "clear"))]))] (opIn true)))) (sRet (evC (.bl false))) nxS) (sRet (evAnd (evOp [(.val (evOp [(.var 1), (.val (evC (.int 1)))] opIxA))] (opIsi .int)) (evAnd (evNot (evOp [(.val (evOp [(.var 1), (.val (evC (.int 1)))] opIxA))] (opIsi .bool))) (evChI (fun i j => decide (i ≤ j)) (fun i j => decide (i < j)) (evC (.int 0)) (evOp [(.var 1), (.val (evC (.int 1)))] opIxA) (evOp [(.var 0)] opLen))))))
def d_law_is_move : Den := fnRes g_law_is_move 0
def g_law_behind : En → Out Fl := (sqS (sIf (evTOp [(.val (evOp [(.var 1), (.val (evC (.int 0)))] opIxA)), (.val (evC (.str "do")))] opEq) (sRet (evOp [(.val (evOp [(.val (evOp [(.var 0), (.val (evTup [(evOp [(.var 1), (.val (evC (.int 1)))] opIxA)]))] opAdd))] opSort))] opTuple)) nxS) (sRet (evOp [(.val (evLc (itSeq (evVar 0)) (tgN 2) (evTOp [(.var 2), (.val (evOp [(.var 1), (.val (evC (.int 1)))] opIxA))] opNe) (evVar 2) [2]))] opTuple)))
def d_law_behind : Den := fnRes g_law_behind 1
def g_law_played : En → Out Fl := (sqS (sAs 3 (evLst [(evTup [])])) (sqS (sFor (itSeq (evVar 2)) (tgN 4) (sqS (sAs 5 (evCall Cm.d_law_word [(.var 0), (.var 1), (.val (evOp [(.var 3), (.val (evOp [(.val (evC (.int 1)))] opNeg))] opIxA)), (.var 4)])) (sqS (sIf (evTOp [(.var 5), (.val (evC .non))] opNoN) (sRet (evTup [(evMove 3), (evMove 5)])) nxS) (sMe1 moApp 3 (evCall Cm.d_law_behind [(.val (evOp [(.var 3), (.val (evOp [(.val (evC (.int 1)))] opNeg))] opIxA)), (.var 4)])))) [4, 5]) (sRet (evTup [(evMove 3), (evC .non)]))))
def d_law_played : Den := fnRes g_law_played 3
def g_law_does : En → Out Fl := (sqS (sIf (evTOr (evTNot (evT (evOp [(.var 2)] (opIsi .list)))) (evTNot (evT (evOp [(.val (evLc (itSeq (evVar 2)) (tgN 4) evYes (evCall Cm.d_law_is_move [(.var 0), (.var 4)]) [4]))] opAll)))) (sRet (evC (.bl false))) nxS) (sqS (sAsT (tgT [5, 6]) (evCall Cm.d_law_played [(.var 0), (.var 1), (.var 2)])) (sRet (evAnd (evOp [(.var 6), (.val (evC .non))] opIsN) (evOp [(.val (evLc (itSeq (evVar 3)) (tgN 7) evYes (evOp [(.var 7), (.val (evOp [(.var 5), (.val (evOp [(.val (evC (.int 1)))] opNeg))] opIxA))] (opIn false)) [7]))] opAll)))))
def d_law_does : Den := fnRes g_law_does 4
def g_law_plan_in : En → Out Fl := (sqS (sAs 3 (evLst [])) (sqS (sAs 4 (evLst [])) (sqS (sFor (itEnV (evVar 2)) (tgT [5, 6]) (sqS (sMe1 moApp 3 (evTup [(evC (.str "do")), (evVar 6)])) (sqS (sMe1 moApp 4 (evVar 6)) (sqS (sAs 7 evNewK) (sqS (sFor (itSeq (evSl (.var 2) (some (evOp [(.var 5), (.val (evC (.int 1)))] opAdd)) none)) (tgN 8) (sFor (itSeq (evOp [(.var 0), (.var 8)] opIxA)) (tgN 9) (sSet 7 (evVar 9) (evC (.bl true))) [9]) [8, 9]) (sqS (sAs 10 (evLc (itSeq (evOp [(.var 4)] opSort)) (tgN 11) (evTAnd (evTOp [(.var 11), (.var 7)] (opIn true)) (evTOp [(.var 11), (.var 1)] (opIn true))) (evVar 11) [11])) (sqS (sMe1 moExt 3 (evLc (itSeq (evVar 10)) (tgN 11) evYes (evTup [(evC (.str "clear")), (evVar 11)]) [11])) (sAs 4 (evLcO 4 (tgN 11) (evTOp [(.var 11), (.var 10)] (opIn true)) (evVar 11) [11])))))))) [5, 6, 7, 8, 9, 10]) (sRet (evMove 3)))))
def d_law_plan_in : Den := fnRes g_law_plan_in 9
def g_law_some_works : En → Out Fl := (sqS (sAs 2 (evCall takeD [(.var 0), (.val (evC (.int 4)))])) (sqS (sIf (evTOp [(.var 2), (.val (evC (.int 0)))] opEq) (sRet (evOp [(.val (evOp [(.var 1)] opLen))] opRgT1)) nxS) (sqS (sIf (evTOp [(.var 2), (.val (evC (.int 1)))] opEq) (sRet (evOp [(.val (evCall Cm.d_all_needed [(.var 1), (.val (evTup [(evCall takeD [(.var 0), (.val (evOp [(.var 1)] opLen))])]))]))] opTuple)) nxS) (sqS (sAs 3 (evLc (itRg [(.val (evOp [(.var 1)] opLen))]) (tgN 4) (evTOp [(.val (evCall takeD [(.var 0), (.val (evC (.int 3)))])), (.val (evC (.int 0)))] opGt) (evVar 4) [4])) (sRet (evIf (evTOp [(.var 3), (.val (evLst []))] opNe) (evOp [(.var 3)] opTuple) (evTup [(evCall takeD [(.var 0), (.val (evOp [(.var 1)] opLen))])])))))))
def d_law_some_works : Den := fnRes g_law_some_works 3
def g_law_part : En → Out Fl := (sqS (sAs 2 (evLst [])) (sqS (sFor (itSeq (evVar 1)) (tgN 3) (sMe1 moApp 2 (evOp [(.val (evLc (itEnA (evVar 1)) (tgT [4, 5]) (evTOp [(.var 5), (.val (evOp [(.var 0), (.var 3)] opIxA))] (opIn false)) (evVar 4) [4, 5]))] opTuple)) [3]) (sRet (evOp [(.var 2)] opTuple))))
def d_law_part : Den := fnRes g_law_part 4
def g_part_net : En → Out Fl := (sqS (sAs 2 (evOp [(.val (evLc (itEnA (evVar 1)) (tgT [3, 4]) evYes (evTup [(evVar 4), (evVar 3)]) [3, 4]))] opDict)) (sqS (sAs 5 (evLst [])) (sqS (sFor (itSeq (evVar 1)) (tgN 4) (sMe1 moApp 5 (evOp [(.val (evLc (itSeq (evOp [(.var 0), (.var 4)] opIxA)) (tgN 6) (evTOp [(.var 6), (.var 2)] (opIn false)) (evOp [(.var 2), (.var 6)] opIxA) [6]))] opTuple)) [4]) (sRet (evOp [(.var 5)] opTuple)))))
def d_part_net : Den := fnRes g_part_net 5
def g_is_tree : En → Out Fl := (sqS (sAs 2 evNewK) (sqS (sFor (itSeq (evCall Cm.d_all_needed [(.var 0), (.val (evTup [(evVar 1)]))])) (tgN 3) (sFor (itSeq (evOp [(.var 0), (.var 3)] opIxA)) (tgN 4) (sSet 2 (evVar 4) (evOp [(.val (evGet2 2 (evVar 4) (evC (.int 0)))), (.val (evC (.int 1)))] opAdd)) [4]) [3, 4]) (sRet (evOp [(.val (evLcD .keys 2 (tgN 4) evYes (evOp [(.val (evOp [(.var 2), (.var 4)] opIxA)), (.val (evC (.int 1)))] opEq) [4]))] opAll))))
def d_is_tree : Den := fnRes g_is_tree 3
def g_deep_order : En → Out Fl := (sqS (sAs 2 (evCall Cm.d_levels [(.var 0)])) (sqS (sAs 3 evNewK) (sqS (sAs 4 (evLc (itRev (evVar 1)) (tgN 5) evYes (evTup [(evVar 5), (evC (.bl false))]) [5])) (sqS (whL (evTOp [(.val (evOp [(.var 4)] opLen)), (.val (evC (.int 0)))] opGt) (sqS (sAsT (tgT [5, 6]) (evPop 4)) (sqS (sIf (evTOp [(.var 5), (.var 3)] (opIn false)) ctS nxS) (sIf (evT (evVar 6)) (sSet 3 (evVar 5) (evC (.bl true))) (sqS (sMe1 moApp 4 (evTup [(evVar 5), (evC (.bl true))])) (sqS (sAs 7 (evOp [(.val (evLc (itSeq (evOp [(.var 0), (.var 5)] opIxA)) (tgN 8) (evTOp [(.var 8), (.var 3)] (opIn true)) (evTup [(evOp [(.val (evOp [(.var 2), (.var 8)] opIxA))] opNeg), (evVar 8)]) [8]))] opSort)) (sMe1 moExt 4 (evLc (itRev (evVar 7)) (tgT [9, 8]) evYes (evTup [(evVar 8), (evC (.bl false))]) [9, 8]))))))) [5, 6, 7] 1000000) (sRet (evOp [(.var 3)] opListA))))))
def d_deep_order : Den := fnRes g_deep_order 8
def g_deep_plan : En → Out Fl := (sRet (evCall Cm.d_plan_in [(.var 0), (.var 1), (.val (evCall Cm.d_deep_order [(.var 0), (.var 1)]))]))
def d_deep_plan : Den := fnRes g_deep_plan 0
def g_row_net : En → Out Fl := (sRet (evOp [(.val (evLc (itRg [(.var 0)]) (tgN 2) evYes (evOp [(.val (evOp [(.val (evC (.int 0))), (.val (evOp [(.var 2), (.var 1)] opSub))] opMax2)), (.var 2)] opRgT2) [2]))] opTuple))
def d_row_net : Den := fnRes g_row_net 1
def g_square_needs : En → Out Fl := (sqS (sAs 3 (evLst [])) (sqS (sIf (evTOp [(.var 0), (.val (evC (.int 0)))] opGt) (sMe1 moApp 3 (evOp [(.val (evOp [(.val (evOp [(.var 0), (.val (evC (.int 1)))] opSub)), (.var 2)] opMul)), (.var 1)] opAdd)) nxS) (sqS (sIf (evTOp [(.var 1), (.val (evC (.int 0)))] opGt) (sMe1 moApp 3 (evOp [(.val (evOp [(.val (evOp [(.var 0), (.var 2)] opMul)), (.var 1)] opAdd)), (.val (evC (.int 1)))] opSub)) nxS) (sRet (evOp [(.var 3)] opTuple)))))
def d_square_needs : Den := fnRes g_square_needs 1
def g_square_net : En → Out Fl := (sRet (evOp [(.val (evLc (itRg [(.val (evOp [(.var 0), (.var 1)] opMul))]) (tgN 2) evYes (evCall Cm.d_square_needs [(.val (evOp [(.var 2), (.var 1)] opFd)), (.val (evOp [(.var 2), (.var 1)] opMd)), (.var 1)]) [2]))] opTuple))
def d_square_net : Den := fnRes g_square_net 1
def g_step_begins : En → Out Fl := (sqS (sAs 1 (evLst [(evC (.int 0))])) (sqS (sFor (itRg [(.val (evC (.int 1))), (.var 0)]) (tgN 2) (sMe1 moApp 1 (evOp [(.val (evOp [(.val (evOp [(.val (evOp [(.var 1), (.val (evOp [(.val (evC (.int 1)))] opNeg))] opIxA)), (.var 0)] opAdd)), (.var 2)] opSub)), (.val (evC (.int 1)))] opAdd)) [2]) (sRet (evMove 1))))
def d_step_begins : Den := fnRes g_step_begins 2
def g_step_net : En → Out Fl := (sqS (sAs 1 (evCall Cm.d_step_begins [(.var 0)])) (sqS (sAs 2 (evOp [(.val (evLst [(evTup [])])), (.var 0)] opMul)) (sqS (sFor (itRg [(.val (evC (.int 1))), (.var 0)]) (tgN 3) (sMe1 moExt 2 (evLc (itRg [(.val (evOp [(.var 0), (.var 3)] opSub))]) (tgN 4) evYes (evTup [(evOp [(.val (evOp [(.var 1), (.val (evOp [(.var 3), (.val (evC (.int 1)))] opSub))] opIxA)), (.var 4)] opAdd), (evOp [(.val (evOp [(.val (evOp [(.var 1), (.val (evOp [(.var 3), (.val (evC (.int 1)))] opSub))] opIxA)), (.var 4)] opAdd)), (.val (evC (.int 1)))] opAdd)]) [4])) [3]) (sRet (evOp [(.var 2)] opTuple)))))
def d_step_net : Den := fnRes g_step_net 4
def g_law_bits : En → Out Fl := (sRet (evOp [(.val (evLc (itSeq (evVar 0)) (tgN 1) evYes (evOp [(.val (evC (.int 1))), (.var 1)] opShl) [1]))] opSum))
def d_law_bits : Den := fnRes g_law_bits 1
def g_law_case : En → Out Fl := (sqS (sAs 1 (evOp [(.val (evC (.int 1))), (.val (evCall takeD [(.var 0), (.val (evC (.int 8)))]))] opAdd)) (sqS (sIf (evTOp [(.val (evCall takeD [(.var 0), (.val (evC (.int 8)))])), (.val (evC (.int 0)))] opEq) (sAs 1 (evOp [(.val (evC (.int 9))), (.val (evCall takeD [(.var 0), (.val (evC (.int 22)))]))] opAdd)) nxS) (sqS (sAs 2 (evCall Cm.d_law_net [(.var 0), (.var 1)])) (sRet (evTup [(evVar 2), (evCall Cm.d_law_asked [(.var 0), (.var 2)])])))))
def d_law_case : Den := fnRes g_law_case 2
def g_law_next_work : En → Out Fl := (sqS (sAs 3 (evCall takeD [(.var 0), (.val (evOp [(.var 1)] opLen))])) (sqS (sAs 4 (evLc (itSeq (evOp [(.var 1), (.var 3)] opIxA)) (tgN 5) (evTOp [(.var 5), (.var 2)] (opIn true)) (evVar 5) [5])) (sqS (whL (evTOp [(.var 4), (.val (evLst []))] opNe) (sqS (sAs 3 (evOp [(.var 4), (.val (evCall takeD [(.var 0), (.val (evOp [(.var 4)] opLen))]))] opIxA)) (sAs 4 (evLc (itSeq (evOp [(.var 1), (.var 3)] opIxA)) (tgN 5) (evTOp [(.var 5), (.var 2)] (opIn true)) (evVar 5) [5]))) [] 1000000) (sRet (evMove 3)))))
def d_law_next_work : Den := fnRes g_law_next_work 3
def g_law_walk : En → Out Fl := (sqS (sAs 4 (evLst [])) (sqS (sAs 5 (evTup [])) (sqS (sFor (itRg [(.var 3)]) (tgN 6) (sqS (sAs 7 (evCall Cm.d_law_next_work [(.var 0), (.var 1), (.var 5)])) (sqS (sAs 8 (evIf (evTOp [(.var 7), (.var 5)] (opIn false)) (evTup [(evC (.str "clear")), (evVar 7)]) (evTup [(evC (.str "do")), (evVar 7)]))) (sqS (sIf (evTAnd (evTOp [(.val (evOp [(.var 5)] opLen)), (.var 2)] opGe) (evTOp [(.val (evOp [(.var 8), (.val (evC (.int 0)))] opIxA)), (.val (evC (.str "do")))] opEq)) (sAs 8 (evTup [(evC (.str "clear")), (evOp [(.var 5), (.val (evCall takeD [(.var 0), (.val (evOp [(.var 5)] opLen))]))] opIxA)])) nxS) (sqS (sMe1 moApp 4 (evVar 8)) (sAs 5 (evCall Cm.d_law_behind [(.var 5), (.var 8)])))))) [6, 7, 8]) (sRet (evTup [(evMove 4), (evMove 5)])))))
def d_law_walk : Den := fnRes g_law_walk 5
def g_stand_behind : En → Out Fl := (sqS (sAsT (tgT [2, 3]) (evVar 1)) (sqS (sIf (evTOp [(.var 2), (.val (evC (.str "do")))] opEq) (sRet (evOp [(.val (evOp [(.val (evOp [(.var 0), (.val (evTup [(evVar 3)]))] opAdd))] opSort))] opTuple)) nxS) (sRet (evOp [(.val (evLc (itSeq (evVar 0)) (tgN 4) (evTOp [(.var 4), (.var 3)] opNe) (evVar 4) [4]))] opTuple))))
def d_stand_behind : Den := fnRes g_stand_behind 3
def g_moved : En → Out Fl := (sqS (sAs 4 (evCall Cm.d_fault_of [(.var 0), (.var 1), (.var 2), (.var 3)])) (sqS (sIf (evTOp [(.var 4), (.val (evC .non))] opNoN) (sRaiseX "Barred" fdBar [(.val (evC (.int 0))), (.var 4)]) nxS) (sRet (evCall Cm.d_stand_behind [(.var 2), (.var 3)]))))
def d_moved : Den := fnRes g_moved 1
def g_played : En → Out Fl := (sqS (sAs 3 (evLst [(evTup [])])) (sqS (sFor (itEnA (evVar 2)) (tgT [4, 5]) (sqS (sAs 6 (evCall Cm.d_fault_of [(.var 0), (.var 1), (.val (evOp [(.var 3), (.val (evOp [(.val (evC (.int 1)))] opNeg))] opIxA)), (.var 5)])) (sqS (sIf (evTOp [(.var 6), (.val (evC .non))] opNoN) (sRaiseX "Barred" fdBar [(.var 4), (.var 6)]) nxS) (sMe1 moApp 3 (evCall Cm.d_moved [(.var 0), (.var 1), (.val (evOp [(.var 3), (.val (evOp [(.val (evC (.int 1)))] opNeg))] opIxA)), (.var 5)])))) [4, 5, 6]) (sRet (evMove 3))))
def d_played : Den := fnRes g_played 4
def g_law_bent : En → Out Fl := (sqS (sAs 3 (evCall takeD [(.var 0), (.val (evOp [(.val (evOp [(.var 2)] opLen)), (.val (evC (.int 1)))] opAdd))])) (sqS (sAs 4 (evTup [(evOp [(.val (evLst [(evC (.str "do")), (evC (.str "clear"))])), (.val (evCall takeD [(.var 0), (.val (evC (.int 2)))]))] opIxA), (evCall takeD [(.var 0), (.val (evOp [(.var 1)] opLen))])])) (sqS (sAs 5 (evCall takeD [(.var 0), (.val (evC (.int 4)))])) (sqS (sIf (evTOp [(.var 5), (.val (evC (.int 0)))] opEq) (sRet (evOp [(.val (evOp [(.val (evSl (.var 2) none (some (evVar 3)))), (.val (evLst [(evVar 4)]))] opAdd)), (.val (evSl (.var 2) (some (evVar 3)) none))] opAdd)) nxS) (sqS (sIf (evTOp [(.var 5), (.val (evC (.int 1)))] opEq) (sRet (evOp [(.val (evSl (.var 2) none (some (evVar 3)))), (.val (evSl (.var 2) (some (evOp [(.var 3), (.val (evC (.int 1)))] opAdd)) none))] opAdd)) nxS) (sRet (evOp [(.val (evOp [(.val (evSl (.var 2) none (some (evVar 3)))), (.val (evOp [(.val (evLst [(evVar 4)])), (.val (evOp [(.val (evOp [(.var 3), (.val (evOp [(.var 2)] opLen))] opLt))] opInt))] opMul))] opAdd)), (.val (evSl (.var 2) (some (evOp [(.var 3), (.val (evC (.int 1)))] opAdd)) none))] opAdd)))))))
def d_law_bent : Den := fnRes g_law_bent 3
end Cm

/- part K36D -/
namespace K36
open PySem Fw L2
def g_law_path_count : En → Out Fl := (sqS (sAs 2 (evLst [])) (sqS (sFor (itSeq (evVar 0)) (tgN 3) (sMe1 moApp 2 (evOp [(.val (evC (.int 1))), (.val (evOp [(.val (evLc (itSeq (evVar 3)) (tgN 4) evYes (evOp [(.var 2), (.var 4)] opIxA) [4]))] opSum))] opMax2)) [3]) (sRet (evOp [(.var 2), (.var 1)] opIxA))))
def d_law_path_count : Den := fnRes g_law_path_count 3
def g_many_paths : En → Out Fl := (sqS (sAs 2 evNewK) (sqS (sFor (itSeq (evCall Cm.d_all_needed [(.var 0), (.val (evTup [(evVar 1)]))])) (tgN 3) (sSet 2 (evVar 3) (evOp [(.val (evC (.int 1))), (.val (evOp [(.val (evLc (itSeq (evOp [(.var 0), (.var 3)] opIxA)) (tgN 4) evYes (evOp [(.var 2), (.var 4)] opIxA) [4]))] opSum))] opMax2)) [3]) (sRet (evOp [(.var 2), (.var 1)] opIxA))))
def d_many_paths : Den := fnRes g_many_paths 3
def g_all_paths : En → Out Fl := (sqS (sIf (evTOp [(.val (evCall d_many_paths [(.var 0), (.var 1)])), (.val (evC (.int 300)))] opGt) (sRaise0 "TooMany") nxS) (sqS (sAs 2 (evLst [])) (sqS (sAs 3 (evLst [(evTup [(evVar 1)])])) (sqS (whL (evTOp [(.val (evOp [(.var 3)] opLen)), (.val (evC (.int 0)))] opGt) (sqS (sAs 4 (evPop 3)) (sqS (sIf (evTOp [(.val (evOp [(.val (evOp [(.var 0), (.val (evOp [(.var 4), (.val (evC (.int 0)))] opIxA))] opIxA))] opLen)), (.val (evC (.int 0)))] opEq) (sMe1 moApp 2 (evVar 4)) nxS) (sMe1 moExt 3 (evLc (itSeq (evOp [(.var 0), (.val (evOp [(.var 4), (.val (evC (.int 0)))] opIxA))] opIxA)) (tgN 5) evYes (evOp [(.val (evTup [(evVar 5)])), (.var 4)] opAdd) [5])))) [4] 1000000) (sRet (evOp [(.var 2)] opSortT))))))
def d_all_paths : Den := fnRes g_all_paths 4
def g_law_told : En → Out Fl := (sqS (sAsT (tgT [2, 3]) (evTup [(evC .non), (evC (.str ""))])) (sqS (sTryAs tx_RoomError 4 (sAs 2 (evCall d_all_paths [(.var 0), (.var 1)])) (fun xx => (sqS (sAs 5 (evOr (evXis xx te_BadRow_Barred_NoMove_NoTree) (evNot (evXis xx te_ValueError)))) (sAs 3 (evIf (evTAnd (evT (evXis xx te_TooMany)) (evTNot (evT (evVar 5)))) (evC (.str "many")) (evC (.str "other"))))))) (sRet (evTup [(evMove 2), (evMove 3)]))))
def d_law_told : Den := fnRes g_law_told 4
def g_law_paths : En → Out Fl := (sqS (sAs 2 (evLst [])) (sqS (sAs 3 (evLst [(evTup [(evVar 1)])])) (sqS (whL (evTOp [(.var 3), (.val (evLst []))] opNe) (sqS (sAs 4 (evPop 3)) (sqS (sIf (evTOp [(.val (evOp [(.var 0), (.val (evOp [(.var 4), (.val (evC (.int 0)))] opIxA))] opIxA)), (.val (evTup []))] opEq) (sMe1 moApp 2 (evVar 4)) nxS) (sMe1 moExt 3 (evLc (itSeq (evOp [(.var 0), (.val (evOp [(.var 4), (.val (evC (.int 0)))] opIxA))] opIxA)) (tgN 5) evYes (evOp [(.val (evTup [(evVar 5)])), (.var 4)] opAdd) [5])))) [4] 1000000) (sRet (evOp [(.var 2)] opSortT)))))
def d_law_paths : Den := fnRes g_law_paths 4
def g_law_right : En → Out Fl := (sqS (sIf (evTOp [(.val (evCall d_law_path_count [(.var 0), (.var 1)])), (.val (evC (.int 300)))] opGt) (sRet (evOp [(.val (evCall d_law_told [(.var 0), (.var 1)])), (.val (evTup [(evC .non), (evC (.str "many"))]))] opEq)) nxS) (sqS (sAs 2 (evCall d_law_paths [(.var 0), (.var 1)])) (sqS (sFor (itRg [(.val (evC (.int 2)))]) (tgN 3) (sqS (sAsT (tgO [4, 5]) (evCall d_law_told [(.var 0), (.var 1)])) (sqS (sIf (evTOr (evTOp [(.var 5), (.val (evC (.str "")))] opNe) (evTNot (evT (evCall Cm.d_law_same [(.var 4), (.var 2)])))) (sRet (evC (.bl false))) nxS) (sMe0 moRev 4))) [3, 4, 5]) (sRet (evC (.bl true))))))
def d_law_right : Den := fnRes g_law_right 4
def g_law : En → Out Fl := (sqS (sFor (itRg [(.val (evC (.int 5)))]) (tgN 2) (sqS (sAs 3 (evCall Cm.d_law_net [(.var 1), (.val (evCall Cm.d_law_many [(.var 1), (.val (evOp [(.val (evLst [(evC (.int 9)), (evC (.int 40))])), (.val (evOp [(.val (evOp [(.var 2), (.val (evC (.int 0)))] opEq))] opInt))] opIxA))]))])) (sFor (itSeq (evFz (evLst [(evOp [(.val (evOp [(.var 3)] opLen)), (.val (evC (.int 1)))] opSub), (evCall takeD [(.var 1), (.val (evOp [(.var 3)] opLen))])]))) (tgN 4) (sIf (evTNot (evT (evCall d_law_right [(.var 3), (.var 4)]))) (sRet (evC (.bl false))) nxS) [4])) [2, 3, 4]) (sqS (sAs 5 (evOp [(.val (evC (.int 300))), (.val (evCall takeD [(.var 1), (.val (evC (.int 2)))]))] opAdd)) (sqS (sIf (evTNot (evT (evCall d_law_right [(.val (evOp [(.val (evOp [(.val (evOp [(.val (evLst [(evTup [])])), (.var 5)] opMul)), (.val (evLst [(evOp [(.var 5)] opRgT1)]))] opAdd))] opTuple)), (.var 5)]))) (sRet (evC (.bl false))) nxS) (sqS (sIf (evTNot (evT (evCall d_law_right [(.val (evOp [(.val (evOp [(.val (evOp [(.val (evOp [(.val (evLst [(evTup [])])), (.val (evC (.int 30)))] opMul)), (.val (evOp [(.val (evLst [(evOp [(.val (evC (.int 30)))] opRgT1)])), (.val (evC (.int 10)))] opMul))] opAdd)), (.val (evLst [(evOp [(.val (evC (.int 30))), (.val (evC (.int 40)))] opRgT2)]))] opAdd))] opTuple)), (.val (evC (.int 40)))]))) (sRet (evC (.bl false))) nxS) (sqS (sAs 6 (evOp [(.val (evC (.int 1))), (.val (evCall takeD [(.var 1), (.val (evC (.int 3)))]))] opAdd)) (sqS (sAs 5 (evOp [(.val (evLst [(evC (.int 8)), (evC (.int 9)), (evC (.int 10)), (evC (.int 11)), (evC (.int 12)), (evC (.int 13)), (evC (.int 14)), (evC (.int 60)), (evC (.int 400))])), (.val (evCall takeD [(.var 1), (.val (evC (.int 9)))]))] opIxA)) (sRet (evCall d_law_right [(.val (evOp [(.val (evLc (itRg [(.var 5)]) (tgN 7) evYes (evOp [(.val (evOp [(.val (evC (.int 0))), (.val (evOp [(.var 7), (.var 6)] opSub))] opMax2)), (.var 7)] opRgT2) [7]))] opTuple)), (.val (evOp [(.var 5), (.val (evC (.int 1)))] opSub))]))))))))
end K36

/- part CmA -/
namespace Cm
open PySem Fw L2
/-! ### nets -/
def needsOk (k : Int) (xs : List Int) : Prop := xs.Pairwise (· < ·) ∧ ∀ x ∈ xs, 0 ≤ x ∧ x < k
def netOk (N : List (List Int)) : Prop := ∀ (i : Nat) (xs : List Int), N[i]? = some xs → needsOk i xs
theorem some_needs_ok {k : Int} {st : RSt} {r : Nat} (h0 : 0 ≤ k) (h1 : k < 1000000) (g : Gd (r+9) st) : Rb (Cm.d_law_some_needs [.rs, .int k] st) fun d st' => ∃ xs, d = tI xs ∧ needsOk k xs ∧ Gd r st' := by
  rw [Cm.d_law_some_needs]; refine Rb.of ?_
  unfold Cm.g_law_some_needs
  obtain ⟨n, st1, e1, n0, n1, g1⟩ := take_gd (r := r + 8) (n := 5) g (by decide) (by decide)
  simp [e1]
  rw [itRg1 (by omega) (by omega)]
  simp
  refine ob_for (fun pre ρ => ∃ acc st', ρ = ⟨[.sh .rs, .sh (.int k), .ow (.lst true (isD acc)), .no, .no], st'⟩ ∧ acc.length ≤ pre.length ∧ (∀ x ∈ acc, 0 ≤ x ∧ x < k) ∧ Gd (r + 2 * (4 - pre.length)) st') ?_ ?_ ?_
  · exact ⟨[], st1, rfl, by simp, by simp, g1⟩
  · rintro pre x post _ hx ⟨acc, st2, rfl, ha, hb, g2⟩
    refine ⟨_, rfl, ?_⟩
    have hl := congrArg List.length hx
    simp at hl
    obtain ⟨m, st3, e3, m0, m1, g3⟩ := take_gd (r := r + 2 * (4 - (pre.length + 1)) + 1) (n := 4) (g2.mono (by omega)) (by decide) (by decide)
    simp [e3]
    rw [opFd_i (by decide) (by decide)]
    simp
    obtain ⟨far, hf, ef⟩ := atI_some (xs := [if k < 4 then k else 4, k]) (i := m / 3) (by omega) (by simp; omega)
    have ef' : atI [D.int (if 4 < k then 4 else k), D.int k] (m / 3) = some (.int far) := by
      have := congrArg (Option.map D.int) ef
      rw [← atI_map] at this
      simp at this
      rw [← this]
      congr 3
      split <;> split <;> omega
    rw [ef']
    simp
    by_cases hk : 0 < k
    · have hfar : 0 < far ∧ far ≤ k := by
        simp at hf
        rcases hf with rfl | rfl
        · split <;> omega
        · omega
      obtain ⟨y, st4, e4, y0, y1, g4⟩ := take_gd (r := r + 2 * (4 - (pre.length + 1))) (n := far) g3 (by omega) (by omega)
      simp [hk, e4]
      rw [moApp_i (by simp [sizeLine_eq]; omega)]
      simp
      refine ⟨acc ++ [k - 1 - y], st4, by simp, by simp; omega, ?_, g4.mono (by omega)⟩
      intro z hz
      rcases List.mem_append.mp hz with hz | hz
      · exact hb z hz
      · simp at hz; omega
    · simp [hk]
      exact ⟨acc, st3, by simp, by omega, hb, g3.mono (by omega)⟩
  · rintro _ ⟨acc, st2, rfl, ha, hb, g2⟩
    simp at ha
    simp
    rw [opSSet_i true (by omega)]
    simp
    exact ⟨sortU acc, rfl, ⟨sortU_sorted acc, fun x hx => hb x (sortU_mem.mp hx)⟩, g2.mono (by omega)⟩
theorem netOk_append {N : List (List Int)} {xs : List Int} (h : netOk N) (k : needsOk N.length xs) : netOk (N ++ [xs]) := by
  intro i ys e
  by_cases hi : i < N.length
  · rw [List.getElem?_append_left hi] at e
    exact h i ys e
  · rw [List.getElem?_append_right (by omega)] at e
    cases hj : i - N.length with
    | zero =>
      rw [hj] at e
      simp at e
      subst e
      rwa [show i = N.length by omega]
    | succ j => rw [hj] at e; simp at e
theorem netOk_nil : netOk [] := fun i ys e => by simp at e
theorem tree_net_ok {n : Int} {st : RSt} {r : Nat} (h0 : 0 < n) (h1 : n < 1000000) (g : Gd (r+n.toNat) st) : Rb (Cm.d_law_tree_net [.rs, .int n] st) fun d st' => ∃ N, d = netD N ∧ netOk N ∧ N.length = n.toNat ∧ Gd r st' := by
  rw [Cm.d_law_tree_net]; refine Rb.of ?_
  unfold Cm.g_law_tree_net
  simp
  rw [itRg1 (by omega) (by omega)]
  simp
  refine ob_for (fun pre ρ => ∃ op F st', ρ = ⟨[.sh .rs, .sh (.int n), .ow (.lst true (isD op)), .ow (.lst true (F.map tI)), .no, .no], st'⟩ ∧ needsOk pre.length op ∧ F.length = pre.length ∧ netOk F ∧ Gd (r + (n.toNat - pre.length)) st') ?_ ?_ ?_
  · exact ⟨[], [], st, rfl, ⟨by simp, by simp⟩, rfl, netOk_nil, g.mono (by simp)⟩
  · rintro pre x post _ hx ⟨op, F, st2, rfl, ⟨hs, hb⟩, hF, hN, g2⟩
    refine ⟨_, rfl, ?_⟩
    have hl := congrArg List.length hx
    simp at hl
    have hxe : x = pre.length := by
      have := rg_get (lo := 0) (hi := n - 1) (i := pre.length) (x := x) (by rw [hx]; simp)
      omega
    obtain ⟨m, st3, e3, m0, m1, g3⟩ := take_gd (r := r + (n.toNat - (pre.length + 1))) (n := 6) (g2.mono (by omega)) (by decide) (by decide)
    simp [e3]
    obtain ⟨s, hs0, es⟩ := atI_some (xs := [0, 0, 1, 2, 2, (3 : Int)]) (i := m) (by omega) (by simp; omega)
    have es' : atI [D.int 0, D.int 0, D.int 1, D.int 2, D.int 2, D.int 3] m = some (.int s) := by
      have := congrArg (Option.map D.int) es
      rwa [← atI_map] at this
    have hs1 : 0 ≤ s := by simp at hs0; omega
    rw [es']
    simp
    generalize hso : (if s < (op.length : Int) then s else (op.length : Int)) = so
    have so0 : 0 ≤ so ∧ so ≤ op.length := by subst hso; split <;> omega
    have hol := sorted_len hs hb
    rw [cutD_lo (by omega)]
    simp
    rw [moApp_i (by simp [sizeLine_eq]; omega)]
    simp
    rw [cutD_hi (by omega)]
    rw [opAdd_l (by simp) (by simp) (by simp [sizeLine_eq]; omega)]
    simp
    refine ⟨op.take ((op.length : Int) - so).toNat ++ [x], F ++ [op.drop ((op.length : Int) - so).toNat], st3, by simp, ?_, by simp [hF], ?_, g3⟩
    · refine ⟨?_, fun z hz => ?_⟩
      · rw [List.pairwise_append]
        refine ⟨hs.sublist (List.take_sublist _ _), by simp, fun a ha b hb' => ?_⟩
        simp at hb'
        have := hb a (List.mem_of_mem_take ha)
        omega
      · rcases List.mem_append.mp hz with hz | hz
        · have := hb z (List.mem_of_mem_take hz)
          omega
        · simp at hz; omega
    · refine netOk_append hN ?_
      rw [hF]
      exact ⟨hs.sublist (List.drop_sublist _ _), fun z hz => hb z (List.mem_of_mem_drop hz)⟩
  · rintro _ ⟨op, F, st2, rfl, ⟨hs, hb⟩, hF, hN, g2⟩
    simp at hF hs hb
    simp
    rw [opAdd_l (by simp) (by simp) (by simp [sizeLine_eq]; omega)]
    simp
    refine ⟨F ++ [op], by simp, netOk_append hN ?_, by simp; omega, g2.mono (by omega)⟩
    rw [hF]
    exact ⟨hs, hb⟩
theorem netOk_of {N : List (List Int)} (h : ∀ (i : Nat) (xs : List Int), N[i]? = some xs → needsOk i xs) : netOk N := h
theorem rg_needs {a b : Int} (h : 0 ≤ a) : needsOk b (rg a b) := ⟨rg_sorted a b, fun x hx => by rw [mem_rg] at hx; omega⟩
theorem sortU_needs {b : Int} {xs : List Int} (h : ∀ x ∈ xs, 0 ≤ x ∧ x < b) : needsOk b (sortU xs) := ⟨sortU_sorted _, fun x hx => h x (sortU_mem.mp hx)⟩
theorem net_ok {n : Int} {st : RSt} {r : Nat} (h0 : 0 < n) (h1 : n < 1000000) (g : Gd (r+2+9*n.toNat) st) : Rb (Cm.d_law_net [.rs, .int n] st) fun d st' => ∃ N, d = netD N ∧ netOk N ∧ N.length = n.toNat ∧ Gd r st' := by
  rw [Cm.d_law_net]; refine Rb.of ?_
  unfold Cm.g_law_net
  obtain ⟨way, st1, e1, w0, w1, g1⟩ := take_gd (r := r + 1 + 9*n.toNat) (n := 8) (g.mono (by omega)) (by decide) (by decide)
  obtain ⟨wd, st2, e2, d0, d1, g2⟩ := take_gd (r := r + 9*n.toNat) (n := 4) (g1.mono (by omega)) (by decide) (by decide)
  simp [e1, e2]
  by_cases hw : way = 0
  · simp [hw]
    rw [itRg1 (by omega) (by omega)]
    simp
    rw [lc_map (fun k => tI (rg (if k - (1 + wd) > 0 then k - (1 + wd) else 0) k))]
    · simp
      refine ⟨(rg 0 n).map fun k => rg (if k - (1 + wd) > 0 then k - (1 + wd) else 0) k, by simp, ?_, by simp, g2.mono (by omega)⟩
      intro i xs e
      rw [List.getElem?_map] at e
      obtain ⟨k, hk, rfl⟩ := Option.map_eq_some_iff.mp e
      have := rg_get hk
      rw [show (i : Int) = k by omega]
      exact rg_needs (by split <;> omega)
    · intro x hx
      rw [mem_rg] at hx
      simp
      rw [opRgT2' (by split <;> omega) (by split <;> omega) (by omega) (by omega)]
      simp
  simp [hw]
  by_cases hw1 : way = 1
  · simp [hw1]
    rw [itRg1 (by omega) (by omega)]
    simp
    rw [lc_map (fun k => .lst true (isD ((if 1 + wd ≤ k then [k - (1 + wd)] else []) ++ (if 0 < k % (1 + wd) then [k - 1] else []))))]
    · simp
      rw [lc_map (fun k => tI (sortU ((if 1 + wd ≤ k then [k - (1 + wd)] else []) ++ (if 0 < k % (1 + wd) then [k - 1] else []))))]
      · simp
        refine ⟨(rg 0 n).map fun k => sortU ((if 1 + wd ≤ k then [k - (1 + wd)] else []) ++ (if 0 < k % (1 + wd) then [k - 1] else [])), by simp, ?_, by simp, g2.mono (by omega)⟩
        intro i xs e
        rw [List.getElem?_map] at e
        obtain ⟨k, hk, rfl⟩ := Option.map_eq_some_iff.mp e
        have := rg_get hk
        rw [show (i : Int) = k by omega]
        refine sortU_needs fun x hx => ?_
        rcases List.mem_append.mp hx with hx | hx
        · split at hx
          · simp at hx; omega
          · simp at hx
        · split at hx
          · simp at hx
            have h2 : k % (1 + wd) ≠ 0 := by omega
            have : k ≠ 0 := by rintro rfl; simp at h2
            omega
          · simp at hx
      · intro x hx
        simp
        rw [← List.map_append, opSSet_i false (by split <;> split <;> simp)]
        simp
    · intro x hx
      have emd := opMd_i (i := x) (j := 1 + wd) (by omega)
      by_cases c1 : 1 + wd ≤ x <;> by_cases c2 : 0 < x % (1 + wd) <;> simp [c1, c2, emd]
  simp [hw1]
  by_cases hw2 : way = 2
  · simp [hw2]
    obtain ⟨d, st3, e3, N, rfl, hN, hl, g3⟩ := Rb_iff.mp (tree_net_ok (r := r) h0 h1 (g2.mono (by omega)))
    simp [e3]
    exact ⟨N, rfl, hN, hl, g3⟩
  simp [hw2]
  by_cases hw3 : way = 3
  · simp [hw3]
    rw [opFd_i (by decide) (by decide)]
    simp
    rw [itRg1 (by omega) (by omega)]
    simp
    generalize e3 : lcL _ _ _ _ _ _ = L
    obtain ⟨ys, st3, rfl, hl, hy, g3⟩ := lc_rd e3 tI (fun k xs => needsOk (if k < n / 2 then k else k - n / 2) xs) 9 r (g2.mono (by simp)) (fun x hx r st g => by
        rw [mem_rg] at hx
        by_cases c : x < n / 2
        · obtain ⟨d, st3, e3, xs, rfl, hxs, g3⟩ := Rb_iff.mp (some_needs_ok (k := x) (r := r) (by omega) (by omega) g)
          simp [c, e3]
          exact ⟨xs, rfl, hxs, g3⟩
        · obtain ⟨d, st3, e3, xs, rfl, hxs, g3⟩ := Rb_iff.mp (some_needs_ok (k := x - n / 2) (r := r) (by omega) (by omega) g)
          simp [c, e3]
          exact ⟨xs, rfl, hxs, g3⟩)
    simp
    rw [lc_map (fun p => tI (if (p.2 : Int) < n / 2 then p.1 else p.1.map (· + n / 2)))]
    · simp
      refine ⟨ys.zipIdx.map fun p => if (p.2 : Int) < n / 2 then p.1 else p.1.map (· + n / 2), by simp, ?_, by simp [hl], g3⟩
      intro i xs e
      rw [List.getElem?_map] at e
      obtain ⟨k, hk, rfl⟩ := Option.map_eq_some_iff.mp e
      rw [List.getElem?_zipIdx] at hk
      obtain ⟨y, hy1, rfl⟩ := Option.map_eq_some_iff.mp hk
      have hi : i < (rg 0 n).length := by rw [← hl]; exact (List.getElem?_eq_some_iff.mp hy1).1
      have h2 := List.getElem?_eq_getElem hi
      have h3 := hy i _ y h2 hy1
      have h4 := rg_get h2
      rw [show (rg 0 n)[i] = (i : Int) by omega] at h3
      simp only [Nat.zero_add]
      split at h3
      · rename_i c; rw [if_pos c]; exact h3
      · rename_i c; rw [if_neg c]
        refine ⟨?_, fun z hz => ?_⟩
        · rw [List.pairwise_map]
          exact h3.1.imp fun h => by omega
        · obtain ⟨w, hw, rfl⟩ := List.mem_map.mp hz
          have := h3.2 w hw
          omega
    · rintro ⟨ys, k⟩ hx
      by_cases c : (k : Int) < n / 2
      · simp [c]
      · simp [c]
        rw [lc_map (fun x => D.int (x + n / 2))]
        · simp
        · intro x hx
          simp
  · simp [hw3]
    rw [itRg1 (by omega) (by omega)]
    simp
    generalize e3 : lcL _ _ _ _ _ _ = L
    obtain ⟨ys, st3, rfl, hl, hy, g3⟩ := lc_rd e3 tI (fun k xs => needsOk k xs) 9 r (g2.mono (by simp)) (fun x hx r st g => by
        rw [mem_rg] at hx
        obtain ⟨d, st3, e3, xs, rfl, hxs, g3⟩ := Rb_iff.mp (some_needs_ok (k := x) (r := r) (by omega) (by omega) g)
        simp [e3]
        exact ⟨xs, rfl, hxs, g3⟩)
    simp
    refine ⟨ys, rfl, ?_, by simp [hl], g3⟩
    intro i xs e
    have hi : i < (rg 0 n).length := by rw [← hl]; exact (List.getElem?_eq_some_iff.mp e).1
    have h2 := List.getElem?_eq_getElem hi
    have h3 := hy i _ xs h2 e
    have := rg_get h2
    rwa [show (i : Int) = (rg 0 n)[i] by omega]
theorem many_ok {m : Int} {st : RSt} {r : Nat} (h0 : 2 ≤ m) (h1 : m < 1000000) (g : Gd (r+3) st) : Rb (Cm.d_law_many [.rs, .int m] st) fun d st' => ∃ x, d = .int x ∧ 1 ≤ x ∧ (x ≤ 9 ∨ x ≤ m) ∧ Gd r st' := by
  rw [Cm.d_law_many]; refine Rb.of ?_
  unfold Cm.g_law_many
  obtain ⟨way, st1, e1, w0, w1, g1⟩ := take_gd (r := r + 2) (n := 8) g (by decide) (by decide)
  simp [e1]
  by_cases hw : way = 0
  · simp [hw]
    rw [opFd_i (by decide) (by decide)]
    obtain ⟨x, st2, e2, x0, x1, g2⟩ := take_gd (r := r) (n := m / 2) (g1.mono (by omega)) (by omega) (by omega)
    simp [e2]
    exact ⟨by omega, by omega, g2⟩
  · simp [hw]
    obtain ⟨a, st2, e2, a0, a1, g2⟩ := take_gd (r := r + 1) (n := 2) g1 (by decide) (by decide)
    obtain ⟨b, st3, e3, b0, b1, g3⟩ := take_gd (r := r) (n := 2) g2 (by decide) (by decide)
    simp [e2, e3]
    obtain ⟨s, hs, es⟩ := atI_some (xs := [1 + a, 3, 4, 5, 6, 7, 8 + b]) (i := way - 1) (by omega) (by simp; omega)
    have es' : atI [D.int (1 + a), .int 3, .int 4, .int 5, .int 6, .int 7, .int (8 + b)] (way - 1) = some (.int s) := by
      have := congrArg (Option.map D.int) es
      rwa [← atI_map] at this
    rw [es']
    simp
    simp at hs
    exact ⟨by omega, by omega, g3⟩
/-! ### the same, kind by kind -/
def pl : Nat → D → Bool
  | _, .int _ => true
  | _, .str _ => true
  | _, .non => true
  | k + 1, .lst _ xs => xs.all (pl k)
  | k + 1, .tup xs => xs.all (pl k)
  | _, _ => false
theorem zip_self {xs : List D} : zipD xs xs = xs.map fun x => .tup [x, x] := by
  unfold zipD
  induction xs with
  | nil => rfl
  | cons x xs ih => simpa using ih
theorem same_at : ∀ (k m : Nat) (d : D) (st : RSt), pl k d = true → shr d = true → k < m → Cm.d_law_same_at m [d, d] st = .ok (.bl true) st
  | k, 0, d, st, _, _, hk => by omega
  | k, m + 1, d, st, hp, hs, hk => by
    have step : ∀ xs : List D, (∃ k', k = k' + 1 ∧ xs.all (pl k') = true) → shrL xs = true → ∀ ρ : En, lcL (tgT [2, 3]) evYes (evCall (Cm.d_law_same_at m) [.var 2, .var 3]) [2, 3] (zipD xs xs) ⟨[.sh d, .sh d, .no, .no], st⟩ = .ok (xs.map fun _ => .bl true) ⟨[.sh d, .sh d, .no, .no], st⟩ := by
      rintro xs ⟨k', rfl, hx⟩ hxs ρ
      rw [zip_self]
      refine lc_map _ fun x hm => ?_
      have h1 := List.all_eq_true.mp hx x hm
      have h2 := shrL_all.mp hxs x hm
      simp [frz_shr h2, fz_of h2, same_at k' m x st h1 h2 (by omega)]
    rw [Cm.d_law_same_at, fnRes_eq]
    unfold Cm.g_law_same
    cases d with
    | non => simp
    | int i => simp [tyD, PT.is]
    | str i => simp [tyD, PT.is]
    | lst o xs =>
      have hx : ∃ k', k = k' + 1 ∧ xs.all (pl k') = true := by
        cases k with
        | zero => simp [pl] at hp
        | succ k => exact ⟨k, rfl, by simpa [pl] using hp⟩
      simp at hs
      have e := step xs hx hs.2 ⟨[], st⟩
      simp [tyD, PT.is, hs.2, e, fgt, opIsN]
    | tup xs =>
      have hx : ∃ k', k = k' + 1 ∧ xs.all (pl k') = true := by
        cases k with
        | zero => simp [pl] at hp
        | succ k => exact ⟨k, rfl, by simpa [pl] using hp⟩
      simp at hs
      have e := step xs hx hs ⟨[], st⟩
      simp [tyD, PT.is, hs, e, fgt, opIsN]
    | bl b => simp [pl] at hp
    | dk o ks xs => cases k <;> simp [pl] at hp
    | dt o ks xs => cases k <;> simp [pl] at hp
    | rs => simp [pl] at hp
    | ob o C fs xs => cases k <;> simp [pl] at hp
    | ev C fs xs => cases k <;> simp [pl] at hp
theorem same_ok (k : Nat) {d : D} (st : RSt) (hp : pl k d = true) (hs : shr d = true) (hk : k < 40) : Cm.d_law_same [d, d] st = .ok (.bl true) st := same_at k 40 d st hp hs hk
@[simp] theorem pl_int (k : Nat) (i : Int) : pl k (.int i) = true := by cases k <;> rfl
@[simp] theorem pl_str (k : Nat) (i : Str) : pl k (.str i) = true := by cases k <;> rfl
@[simp] theorem pl_non (k : Nat) : pl k .non = true := by cases k <;> rfl
@[simp] theorem pl_lst (k : Nat) (o : Bool) (xs : List D) : pl (k + 1) (.lst o xs) = xs.all (pl k) := rfl
@[simp] theorem pl_tup (k : Nat) (xs : List D) : pl (k + 1) (.tup xs) = xs.all (pl k) := rfl
end Cm

/- part CmB -/
namespace Cm
open PySem Fw L2
/-! ### who needs a work, which none needs -/
def nd (N : List (List Int)) (o : Int) : List Int := N.getD o.toNat []
theorem ix_net {N : List (List Int)} {o : Int} (h0 : 0 ≤ o) (h1 : o < N.length) : atI N o = some (nd N o) := atI_getD _ h0 h1
theorem nd_ok {N : List (List Int)} {o : Int} (hN : netOk N) (h0 : 0 ≤ o) (h1 : o < N.length) : needsOk o (nd N o) := by
  have := hN o.toNat (nd N o) (by
    show N[o.toNat]? = some (N.getD o.toNat [])
    rw [List.getD_eq_getElem?_getD, List.getElem?_eq_getElem (by omega)]; rfl)
  rwa [show ((o.toNat : Nat) : Int) = o by omega] at this
def users (N : List (List Int)) (w : Int) : List Int := (rg (w + 1) N.length).filter fun o => decide (w ∈ nd N o)
theorem users_ok {N : List (List Int)} {w : Int} {st : RSt} (h0 : 0 ≤ w) (h1 : w < N.length) (hl : N.length ≤ 1000000) : d_users_of [netD N, .int w] st = .ok (.lst true (isD (users N w))) st := by
  rw [d_users_of, fnRes_eq]
  unfold g_users_of
  simp
  rw [itRg2 (by omega) (by omega) (by omega) (by omega)]
  simp
  rw [lc_fm (fun o => decide (w ∈ nd N o)) D.int]
  · rfl
  · intro o ho
    rw [mem_rg] at ho
    simp [ix_net (N := N) (o := o) (by omega) (by omega)]
    by_cases c : w ∈ nd N o <;> simp [c]
theorem rg_cut {a b c : Int} (h : a ≤ b) (h2 : b ≤ c) : rg a c = rg a b ++ rg b c := by
  refine strict_same (rg_sorted a c) ?_ fun z => ?_
  · rw [List.pairwise_append]
    exact ⟨rg_sorted _ _, rg_sorted _ _, fun x hx y hy => by rw [mem_rg] at hx hy; omega⟩
  · rw [List.mem_append, mem_rg, mem_rg, mem_rg]; omega
theorem users_all {N : List (List Int)} {w : Int} (hN : netOk N) (h0 : 0 ≤ w) (h1 : w < N.length) : users N w = (rg 0 N.length).filter fun o => decide (w ∈ nd N o) := by
  rw [rg_cut (a := 0) (b := w + 1) (c := N.length) (by omega) (by omega), List.filter_append]
  have : (rg 0 (w + 1)).filter (fun o => decide (w ∈ nd N o)) = [] := by
    rw [List.filter_eq_nil_iff]
    intro o ho
    rw [mem_rg] at ho
    simp only [decide_eq_true_eq]
    intro hm
    have := (nd_ok hN (o := o) (by omega) (by omega)).2 w hm
    omega
  rw [this, List.nil_append]
  rfl
/-- none needs it -/
def needed (N : List (List Int)) (w : Int) : Bool := N.any fun xs => decide (w ∈ xs)
def ends (N : List (List Int)) : List Int := (rg 0 N.length).filter fun w => !needed N w
theorem ends_ok {N : List (List Int)} {st : RSt} (hN : netOk N) (hl : N.length ≤ 1000000) : d_ends_of [netD N] st = .ok (.lst true (isD (ends N))) st := by
  rw [d_ends_of, fnRes_eq]
  unfold g_ends_of
  simp
  rw [opMul_l (by simp) (by omega) (by simp; omega) (by omega)]
  simp
  rw [show (List.replicate N.length (D.bl false)) = (rg 0 N.length).map fun w => D.bl (needed [] w) by
    refine List.ext_getElem (by simp) fun i h1 h2 => ?_
    simp [needed]]
  obtain ⟨ρ', e, hI⟩ := forL_inv (t := tgN 2) (body := sFor (itSeq (evVar 2)) (tgN 3) (sSet 1 (evVar 3) (evC (D.bl true))) [3]) (fg := [2, 3]) (toD := tI) (fun (pre : List (List Int)) (ρ : En) => ρ = ⟨[.sh (netD N), .ow (.lst true ((rg 0 N.length).map fun w => D.bl (needed pre w))), .no, .no, .no], st⟩) N [] _ rfl (by
    rintro pre x post _ hx rfl
    refine ⟨_, rfl, ?_⟩
    have hx1 : ∀ z ∈ x, 0 ≤ z ∧ z < N.length := fun z hz => by
      have e : N[pre.length]? = some x := by rw [List.nil_append] at hx; rw [hx]; simp
      have := (hN _ _ e).2 z hz
      have := (List.getElem?_eq_some_iff.mp e).1
      omega
    simp
    refine ob_forL (fun pre2 ρ => ρ = ⟨[.sh (netD N), .ow (.lst true ((rg 0 N.length).map fun w => D.bl (needed pre w || decide (w ∈ pre2)))), .sh (tI x), .no, .no], st⟩) (by simp) ?_ ?_
    · rintro pre2 y post2 _ hy rfl
      refine ⟨_, rfl, ?_⟩
      have hy1 := hx1 y (by rw [hy]; simp)
      simp
      rw [ixN_get (by omega) (by omega)]
      simp
      refine List.ext_getElem (by simp) fun i h1 h2 => ?_
      rw [List.getElem_set]
      simp at h1
      have hg : (rg 0 (N.length : Int))[i]'(by simpa using h1) = (i : Int) := by
        have := rg_get (List.getElem?_eq_getElem (l := rg 0 (N.length : Int)) (i := i) (by simpa using h1))
        omega
      simp only [List.getElem_map, hg]
      split
      · rename_i c
        have : (i : Int) = y := by omega
        simp [this]
      · rename_i c
        have : ¬ (i : Int) = y := by omega
        simp [this]
    · rintro _ rfl
      simp
      intro a h1 h2
      simp [needed])
  rw [e, hI]
  simp
  rw [itRg1 (by omega) (by omega)]
  simp
  rw [lc_fm (fun w => !needed N w) D.int]
  · rfl
  · intro w hw
    rw [mem_rg] at hw
    have hg : atI (rg 0 (N.length : Int)) w = some w := by
      rw [atI_get (by omega) (by simp; omega)]
      have := rg_get (List.getElem?_eq_getElem (l := rg 0 (N.length : Int)) (i := w.toNat) (by simp; omega))
      congr 1
      omega
    simp [hg]
    by_cases c : needed N w <;> simp [c]
end Cm

/- part CmC -/
namespace Cm
open PySem Fw L2
/-! ### moves -/
abbrev mvD (p : Str × Int) : D := .tup [.str p.1, .int p.2]
def optD : Option Str → D
  | none => .non
  | some x => .str x
def ready (N : List (List Int)) (S : List Int) (w : Int) : Bool := (nd N w).all fun n => decide (n ∈ S)
/-- the word by which a move is barred -/
def fault (N : List (List Int)) (rooms : Int) (S : List Int) (word : Str) (w : Int) : Option Str :=
  if word = "clear" then (if w ∈ S then none else some "empty") else if w ∈ S then some "there" else if ready N S w = false then some "needs" else if (S.length : Int) < rooms then none else some "full"
@[simp] theorem shr_optD (o : Option Str) : shr (optD o) = true := by cases o <;> simp [optD]
@[simp] theorem clo_optD (o : Option Str) : clo (optD o) = true := by cases o <;> simp [optD]
@[simp] theorem pl_optD (k : Nat) (o : Option Str) : pl k (optD o) = true := by cases o <;> simp [optD]
@[simp] theorem fz_optD (o : Option Str) : fz (optD o) = optD o := by cases o <;> simp [optD]
@[simp] theorem frz_optD (o : Option Str) : frz (optD o) = optD o := by cases o <;> simp [optD]
@[simp] theorem opIsN_optD (o : Option Str) : opIsN [optD o, .non] = some (.bl o.isNone) := by cases o <;> rfl
theorem fault_ok {N : List (List Int)} {rooms : Int} {S : List Int} {word : Str} {w : Int} {st : RSt} (h0 : 0 ≤ w) (h1 : w < N.length) : d_fault_of [netD N, .int rooms, tI S, mvD (word, w)] st = .ok (optD (fault N rooms S word w)) st := by
  rw [d_fault_of, fnRes_eq]
  unfold g_fault_of fault
  by_cases hc : word = "clear"
  · by_cases hw : w ∈ S <;> simp [hc, hw, optD]
  · by_cases hw : w ∈ S
    · simp [hc, hw, optD]
    · simp [hc, hw, ix_net h0 h1]
      rw [lc_map (fun n => .bl (decide (n ∈ S)))]
      · rw [lstK_ok, opsK1_ok, evOps_nil, opsK2_ok, opK_ok, opAll_b, show (nd N w).all (fun n => decide (n ∈ S)) = ready N S w from rfl]
        by_cases ha : ready N S w = true
        · by_cases hr : (S.length : Int) < rooms <;> simp [ha, hr, optD]
        · simp only [Bool.not_eq_true] at ha
          simp [ha, optD]
      · intro n hn
        simp
theorem word_ok {N : List (List Int)} {rooms : Int} {S : List Int} {word : Str} {w : Int} {st : RSt} (h0 : 0 ≤ w) (h1 : w < N.length) : d_law_word [netD N, .int rooms, tI S, mvD (word, w)] st = .ok (optD (fault N rooms S word w)) st := by
  rw [d_law_word, fnRes_eq]
  unfold g_law_word fault
  have e0 : atI [D.str word, D.int w] 0 = some (.str word) := rfl
  have e1 : atI [D.str word, D.int w] 1 = some (.int w) := rfl
  by_cases hc : word = "clear"
  · subst hc
    by_cases hw : w ∈ S <;> simp [e0, e1, hw, optD]
  · by_cases hw : w ∈ S
    · simp [e0, e1, hc, hw, optD]
    · simp [e0, e1, hc, hw, ix_net h0 h1]
      rw [lc_map (fun n => .bl (decide (n ∈ S)))]
      · rw [lstK_ok, opsK1_ok, evOps_nil, opsK2_ok, opK_ok, opAll_b, show (nd N w).all (fun n => decide (n ∈ S)) = ready N S w from rfl]
        by_cases ha : ready N S w = true
        · by_cases hr : (S.length : Int) < rooms
          · have hr' : ¬ rooms ≤ (S.length : Int) := by omega
            simp [ha, hr, hr', optD]
          · have hr' : rooms ≤ (S.length : Int) := by omega
            simp [ha, hr, hr', optD]
        · simp only [Bool.not_eq_true] at ha
          simp [ha, optD]
      · intro n hn
        simp
theorem sortI_strict {xs : List Int} (h : xs.Nodup) : (sortI xs).Pairwise (· < ·) := by
  have s := sortI_sorted xs
  have n : (sortI xs).Nodup := (sortI_perm xs).nodup_iff.mpr h
  exact (s.and (List.nodup_iff_pairwise_ne.mp n)).imp fun ⟨p, q⟩ => by omega
theorem some_net_ok {st : RSt} {r : Nat} (g : Gd (r + 2 + 2 + 9 * 60) st) : Rb (d_law_some_net [.rs] st) fun d st' => ∃ N, d = netD N ∧ netOk N ∧ 1 ≤ N.length ∧ N.length ≤ 60 ∧ Gd r st' := by
  rw [d_law_some_net]; refine Rb.of ?_
  unfold g_law_some_net
  obtain ⟨a, st1, e1, a0, a1, g1⟩ := take_gd (r := r + 1 + 2 + 9 * 60) (n := 8) (g.mono (by omega)) (by decide) (by decide)
  by_cases c : a = 0
  · obtain ⟨b, st2, e2, b0, b1, g2⟩ := take_gd (r := r + 2 + 9 * 60) (n := 31) (g1.mono (by omega)) (by decide) (by decide)
    obtain ⟨_, st3, e3, N, rfl, hN, hl, g3⟩ := Rb_iff.mp (net_ok (n := 30 + b) (r := r) (by omega) (by omega) (g2.mono (by omega)))
    simp [e1, c, e2, e3]
    exact ⟨N, rfl, hN, by omega, by omega, g3⟩
  · obtain ⟨b, st2, e2, b0, b1, g2⟩ := take_gd (r := r + 2 + 9 * 60) (n := 9) (g1.mono (by omega)) (by decide) (by decide)
    obtain ⟨_, st3, e3, N, rfl, hN, hl, g3⟩ := Rb_iff.mp (net_ok (n := 1 + b) (r := r) (by omega) (by omega) (g2.mono (by omega)))
    simp [e1, c, e2, e3]
    exact ⟨N, rfl, hN, by omega, by omega, g3⟩
theorem stand_ok {N : List (List Int)} {rooms : Int} {st : RSt} {r : Nat} (hN : netOk N) (hn0 : 1 ≤ N.length) (hn : N.length ≤ 1000) (h0 : 1 ≤ rooms) (h1 : rooms ≤ 1000) (g : Gd (r + 3 + 1000) st) :
    Rb (d_law_stand [.rs, netD N, .int rooms] st) fun d st' => ∃ S, d = tI S ∧ needsOk N.length S ∧ (S.length : Int) ≤ rooms ∧ Gd r st' := by
  rw [d_law_stand]; refine Rb.of ?_
  unfold g_law_stand
  obtain ⟨a, st1, e1, a0, a1, g1⟩ := take_gd (r := r + 2 + 1000) (n := 2) (g.mono (by omega)) (by decide) (by decide)
  have rest : ∀ (S0 : List Int) (st2 : RSt), S0.Nodup → (∀ x ∈ S0, 0 ≤ x ∧ x < N.length) → (S0.length : Int) ≤ rooms → Gd (r + 1 + 1000) st2 →
      Ob (sqS (sFor (itRg [(.val (evCall takeD [(.var 0), (.val (evOp [(.val (evOp [(.var 2), (.val (evOp [(.var 1)] opLen))] opMin2)), (.val (evC (.int 1)))] opAdd))]))]) (tgN 4) (sqS (sAs 5 (evCall takeD [(.var 0), (.val (evOp [(.var 1)] opLen))])) (sIf (evTAnd (evTOp [(.var 5), (.var 3)] (opIn true)) (evTOp [(.val (evOp [(.var 3)] opLen)), (.var 2)] opLt)) (sMe1 moApp 3 (evVar 5)) nxS)) [4, 5]) (sRet (evOp [(.val (evOp [(.var 3)] opSort))] opTuple)) ⟨[.sh .rs, .sh (netD N), .sh (.int rooms), .ow (.lst true (isD S0)), .no, .no], st2⟩)
        (rtQ fun d st' => ∃ S, d = tI S ∧ needsOk N.length S ∧ (S.length : Int) ≤ rooms ∧ Gd r st') := by
    intro S0 st2 hd hb hl g2
    obtain ⟨k, st3, e3, k0, k1, g3⟩ := take_gd (r := r + 1000) (n := (if (N.length : Int) < rooms then (N.length : Int) else rooms) + 1) (g2.mono (by omega)) (by split <;> omega) (by split <;> omega)
    simp [e3]
    have k2 : k ≤ 1000 := by split at k1 <;> omega
    rw [itRg1 (by omega) (by omega)]
    simp
    refine ob_for (fun pre ρ => ∃ S st4, ρ = ⟨[.sh .rs, .sh (netD N), .sh (.int rooms), .ow (.lst true (isD S)), .no, .no], st4⟩ ∧ S.Nodup ∧ (∀ x ∈ S, 0 ≤ x ∧ x < N.length) ∧ (S.length : Int) ≤ rooms ∧ Gd (r + (1000 - pre.length)) st4) ⟨S0, st3, rfl, hd, hb, hl, g3⟩ ?_ ?_
    · rintro pre x post _ hx ⟨S, st4, rfl, hd, hb, hl, g4⟩
      refine ⟨_, rfl, ?_⟩
      have hlen := congrArg List.length hx
      simp at hlen
      obtain ⟨y, st5, e5, y0, y1, g5⟩ := take_gd (r := r + (1000 - (pre.length + 1))) (n := N.length) (g4.mono (by omega)) (by omega) (by omega)
      simp [e5]
      by_cases c1 : y ∈ S
      · simp [c1]
        exact ⟨S, st5, ⟨rfl, rfl⟩, hd, hb, hl, g5.mono (by omega)⟩
      · by_cases c2 : (S.length : Int) < rooms
        · simp [c1, c2]
          rw [moApp_i (by simp [sizeLine_eq]; omega)]
          simp
          refine ⟨S ++ [y], st5, ⟨by simp, rfl⟩, ?_, ?_, by simp; omega, g5.mono (by omega)⟩
          · rw [List.nodup_append]
            exact ⟨hd, by simp, fun a ha b hb' => by simp at hb'; subst hb'; rintro rfl; exact c1 ha⟩
          · intro z hz
            rcases List.mem_append.mp hz with hz | hz
            · exact hb z hz
            · simp at hz; omega
        · simp [c1, c2]
          exact ⟨S, st5, ⟨rfl, rfl⟩, hd, hb, hl, g5.mono (by omega)⟩
    · rintro _ ⟨S, st4, rfl, hd, hb, hl, g4⟩
      simp
      refine ⟨sortI S, rfl, ⟨sortI_strict hd, fun x hx => hb x ((sortI_perm S).mem_iff.mp hx)⟩, ?_, g4.mono (by omega)⟩
      rw [(sortI_perm S).length_eq]; exact hl
  by_cases c : a = 0
  · obtain ⟨b, st2, e2, b0, b1, g2⟩ := take_gd (r := r + 1 + 1000) (n := N.length) (g1.mono (by omega)) (by omega) (by omega)
    simp [e1, c, e2, ix_net (N := N) (o := b) b0 b1]
    rw [cutD_hi (by omega)]
    have hb := nd_ok hN b0 b1
    have := rest ((nd N b).take rooms.toNat) st2 ((hb.1.sublist (List.take_sublist _ _)).imp fun h => by omega) (fun x hx => by
      have := hb.2 x (List.mem_of_mem_take hx); omega) (by simp; omega) g2
    simpa using this
  · simp [e1, c]
    have := rest [] st1 (by simp) (by simp) (by simp; omega) (g1.mono (by omega))
    simpa using this
theorem some_move_ok {N : List (List Int)} {S : List Int} {st : RSt} {r : Nat} (hN : netOk N) (hn0 : 1 ≤ N.length) (hn : N.length ≤ 1000) (hS : needsOk N.length S) (g : Gd (r + 3) st) :
    Rb (d_law_some_move [.rs, netD N, tI S] st) fun d st' => ∃ word w, d = mvD (word, w) ∧ 0 ≤ w ∧ w < N.length ∧ Gd r st' := by
  rw [d_law_some_move]; refine Rb.of ?_
  unfold g_law_some_move
  obtain ⟨a, st1, e1, a0, a1, g1⟩ := take_gd (r := r + 2) (n := 4) (g.mono (by omega)) (by decide) (by decide)
  obtain ⟨word, ew⟩ : ∃ word : Str, atI [D.str "do", D.str "do", D.str "do", D.str "clear"] a = some (.str word) := by
    obtain ⟨x, hx, e⟩ := atI_some (xs := [D.str "do", D.str "do", D.str "do", D.str "clear"]) (i := a) a0 (by simp; omega)
    simp at hx
    rcases hx with rfl | rfl
    · exact ⟨_, e⟩
    · exact ⟨_, e⟩
  simp [e1, ew]
  rw [itRg1 (by omega) (by omega)]
  simp
  rw [lc_fm (ready N S) D.int]
  · simp
    rw [opRgL1' (by omega) (by omega)]
    simp
    rw [lc_fm (fun w => !decide (w ∈ S)) D.int]
    · obtain ⟨b, st2, e2, b0, b1, g2⟩ := take_gd (r := r + 1) (n := 3) (g1.mono (by omega)) (by decide) (by decide)
      simp [e2]
      obtain ⟨W, hW, hWl, eW⟩ : ∃ W : List Int, (∀ w ∈ W, 0 ≤ w ∧ w < N.length) ∧ W.length ≤ N.length ∧ atI [D.lst true (isD (rg 0 N.length)), D.lst true (isD S), D.lst true (isD (((rg 0 N.length).filter (ready N S)).filter fun w => !decide (w ∈ S)))] b = some (.lst true (isD W)) := by
        rcases (show b = 0 ∨ b = 1 ∨ b = 2 by omega) with rfl | rfl | rfl
        · exact ⟨rg 0 N.length, fun w hw => by rw [mem_rg] at hw; exact hw, by rw [rg_len]; omega, rfl⟩
        · exact ⟨S, hS.2, by have := sorted_len hS.1 hS.2; omega, rfl⟩
        · exact ⟨((rg 0 N.length).filter (ready N S)).filter fun w => !decide (w ∈ S), fun w hw => by
            have := (List.mem_filter.mp (List.mem_filter.mp hw).1).1
            rw [mem_rg] at this; exact this, by
            refine Nat.le_trans (List.length_filter_le _ _) (Nat.le_trans (List.length_filter_le _ _) ?_)
            rw [rg_len]; omega, rfl⟩
      simp at eW
      rw [eW]
      simp
      have fin : ∀ W : List Int, W ≠ [] → (∀ w ∈ W, 0 ≤ w ∧ w < N.length) → (W.length : Int) < 1000000 → ∀ s6 : Sv, Ob (sRet (evTup [(evVar 3), (evOp [(.var 7), (.val (evCall takeD [(.var 0), (.val (evOp [(.var 7)] opLen))]))] opIxA)]) ⟨[.sh .rs, .sh (netD N), .sh (tI S), .sh (.str word), s6, .no, .no, .ow (.lst true (isD W))], st2⟩) (rtQ fun d st' => ∃ word w, d = mvD (word, w) ∧ 0 ≤ w ∧ w < N.length ∧ Gd r st') := by
        intro W h0 h1 h2 s6
        have hl : 0 < W.length := List.length_pos_iff.mpr h0
        obtain ⟨k, st3, e3, k0, k1, g3⟩ := take_gd (r := r) (n := W.length) g2 (by omega) (by omega)
        obtain ⟨w, hw, ew⟩ := atI_some (xs := W) (i := k) k0 k1
        simp [e3, ew]
        exact ⟨word, w, ⟨rfl, rfl⟩, (h1 w hw).1, (h1 w hw).2, g3⟩
      by_cases hz : W = []
      · subst hz
        simp
        rw [opRgL1' (by omega) (by omega)]
        simp
        have := fin (rg 0 N.length) (by
          intro z
          have := congrArg List.length z
          rw [rg_len, List.length_nil] at this
          omega) (fun w hw => by rw [mem_rg] at hw; exact hw) (by rw [rg_len]; omega)
        simpa using this _
      · simp [hz]
        have := fin W hz hW (by omega)
        simpa using this _
    · intro w hw
      by_cases c : w ∈ S <;> simp [c]
  · intro w hw
    rw [mem_rg] at hw
    simp [ix_net (N := N) (o := w) (by omega) (by omega)]
    rw [lc_map (fun n => .bl (decide (n ∈ S)))]
    · rw [lstK_ok, opsK1_ok, evOps_nil, opsK2_ok, opK_ok, opAll_b, show (nd N w).all (fun n => decide (n ∈ S)) = ready N S w from rfl]
      by_cases c : ready N S w = true
      · simp [c]
      · simp only [Bool.not_eq_true] at c
        simp [c]
    · intro n hn
      simp
/-- how many rooms: [1 + take 6, len + take 3][take 4 // 3] -/
theorem rooms_ok {n : Nat} {st : RSt} {r : Nat} (g : Gd (r + 3) st) :
    ∃ a b c rooms st1 st2 st3, takeD [.rs, .int 6] st = .ok (.int a) st1 ∧ takeD [.rs, .int 3] st1 = .ok (.int b) st2 ∧ takeD [.rs, .int 4] st2 = .ok (.int c) st3 ∧ opFd [.int c, .int 3] = some (.int (c / 3)) ∧ atI [D.int (1 + a), D.int ((n : Int) + b)] (c / 3) = some (.int rooms) ∧ 1 ≤ rooms + (if n = 0 then 1 else 0) ∧ rooms ≤ n + 8 ∧ Gd r st3 := by
  obtain ⟨a, st1, e1, a0, a1, g1⟩ := take_gd (r := r + 2) (n := 6) (g.mono (by omega)) (by decide) (by decide)
  obtain ⟨b, st2, e2, b0, b1, g2⟩ := take_gd (r := r + 1) (n := 3) (g1.mono (by omega)) (by decide) (by decide)
  obtain ⟨c, st3, e3, c0, c1, g3⟩ := take_gd (r := r) (n := 4) (g2.mono (by omega)) (by decide) (by decide)
  obtain ⟨x, hx, ex⟩ := atI_some (xs := [1 + a, (n : Int) + b]) (i := c / 3) (by omega) (by simp; omega)
  have ex' : atI [D.int (1 + a), D.int ((n : Int) + b)] (c / 3) = some (.int x) := by
    have := congrArg (Option.map D.int) ex
    rwa [← atI_map] at this
  simp at hx
  exact ⟨a, b, c, x, st1, st2, st3, e1, e2, e3, opFd_i (by decide) (by decide), ex', by split <;> omega, by omega, g3⟩
/-- all moves that are let by -/
def movesOf (N : List (List Int)) (rooms : Int) (S : List Int) : List (Str × Int) :=
  (((rg 0 N.length).map fun w => (("do" : Str), w)) ++ ((rg 0 N.length).map fun w => (("clear" : Str), w))).filter fun m => (fault N rooms S m.1 m.2).isNone
theorem moves_ok {N : List (List Int)} {rooms : Int} {S : List Int} {st : RSt} (hn : N.length ≤ 1000) : d_moves_of [netD N, .int rooms, tI S] st = .ok (.lst true ((movesOf N rooms S).map mvD)) st := by
  rw [d_moves_of, fnRes_eq]
  unfold g_moves_of
  simp
  rw [itRg1 (by omega) (by omega)]
  simp
  rw [lc_map (fun w => mvD ("do", w)) (by intro w hw; simp)]
  simp
  rw [itRg1 (by omega) (by omega)]
  simp
  rw [lc_map (fun w => mvD ("clear", w)) (by intro w hw; simp)]
  simp
  rw [opAdd_l (by simp) (by simp) (by simp [sizeLine_eq]; omega)]
  have e : (rg 0 N.length).map (fun w => mvD ("do", w)) ++ (rg 0 N.length).map (fun w => mvD ("clear", w)) = (((rg 0 N.length).map fun w => (("do" : Str), w)) ++ ((rg 0 N.length).map fun w => (("clear" : Str), w))).map mvD := by simp [Function.comp_def]
  rw [e]
  generalize hM : ((rg 0 N.length).map fun w => (("do" : Str), w)) ++ ((rg 0 N.length).map fun w => (("clear" : Str), w)) = M at *
  have hMr : ∀ m ∈ M, 0 ≤ m.2 ∧ m.2 < N.length := fun m hm => by
    rw [← hM] at hm
    rcases List.mem_append.mp hm with hm | hm <;> (obtain ⟨w, hw, rfl⟩ := List.mem_map.mp hm; rw [mem_rg] at hw; exact hw)
  simp
  rw [lc_fm (fun m => (fault N rooms S m.1 m.2).isNone) mvD]
  · simp [movesOf, hM]
  · rintro ⟨word, w⟩ hm
    have hb := hMr _ hm
    have ef := fault_ok (N := N) (rooms := rooms) (S := S) (word := word) (w := w) (st := st) hb.1 hb.2
    cases hf : fault N rooms S word w with
    | none =>
      rw [hf] at ef
      simp [ef, hf]
    | some x =>
      rw [hf] at ef
      simp [ef, hf]
end Cm

/- part CmE -/
namespace Cm
open PySem Fw L2
/-! ### while, sequence -/
theorem ob_sq {g : En → Out Fl} {o : Out Fl} {Q : Fl → En → Prop} (h : Ob o fun fl ρ => match fl with | .nx => Ob (g ρ) Q | fl => Q fl ρ) : Ob (sqK g o) Q := by
  obtain ⟨fl, ρ, rfl, q⟩ := Ob_iff.mp h
  cases fl with
  | nx => rw [sqK_nx]; exact q
  | bk => rw [sqK_bk, Ob_ok]; exact q
  | ct => rw [sqK_ct, Ob_ok]; exact q
  | rt d => rw [sqK_rt, Ob_ok]; exact q
theorem ob_wh {c : En → Out Bool} {body : En → Out Fl} {fg : List Nat} (I : Nat → En → Prop) (Q : Fl → En → Prop)
    (step : ∀ k ρ, I k ρ → Ob (c ρ) fun b ρ1 => if b = true then Ob (body ρ1) (fun fl ρ2 => match fl with | .nx => ∃ k', k' < k ∧ I k' ⟨fgt ρ2.vs fg, ρ2.st⟩ | .ct => ∃ k', k' < k ∧ I k' ⟨fgt ρ2.vs fg, ρ2.st⟩ | .bk => Q .nx ρ2 | .rt d => Q (.rt d) ρ2) else Q .nx ρ1) :
    ∀ (n k : Nat) (ρ : En), k < n → I k ρ → Ob (whL c body fg n ρ) Q
  | 0, k, ρ, h, _ => by omega
  | n + 1, k, ρ, h, i => by
    obtain ⟨b, ρ1, e1, h1⟩ := Ob_iff.mp (step k ρ i)
    rw [whL, e1]
    simp only [Out.bind]
    cases b with
    | false => rw [if_neg (by simp)] at h1 ⊢; rw [Ob_ok]; exact h1
    | true =>
      rw [if_pos rfl] at h1 ⊢
      obtain ⟨fl, ρ2, e2, h2⟩ := Ob_iff.mp h1
      rw [e2]
      cases fl with
      | nx =>
        obtain ⟨k', hk, i'⟩ := h2
        exact ob_wh I Q step n k' _ (by omega) i'
      | ct =>
        obtain ⟨k', hk, i'⟩ := h2
        exact ob_wh I Q step n k' _ (by omega) i'
      | bk => simp only [Out.bind]; rw [Ob_ok]; exact h2
      | rt d => simp only [Out.bind]; rw [Ob_ok]; exact h2
/-! ### all that is needed -/
inductive Und (N : List (List Int)) (A : List Int) : Int → Prop
  | ask {a : Int} (h : a ∈ A) : Und N A a
  | need {u w : Int} (h : Und N A u) (k : w ∈ nd N u) : Und N A w
theorem Und.range {N : List (List Int)} {A : List Int} {w : Int} (hN : netOk N) (hA : ∀ a ∈ A, 0 ≤ a ∧ a < N.length) (h : Und N A w) : 0 ≤ w ∧ w < N.length := by
  induction h with
  | ask h => exact hA _ h
  | need h k ih =>
    have := (nd_ok hN ih.1 ih.2).2 _ k
    omega
theorem Und.mono {N : List (List Int)} {A A' : List Int} {w : Int} (h : Und N A w) (k : ∀ a ∈ A, Und N A' a) : Und N A' w := by
  induction h with
  | ask h => exact k _ h
  | need h k ih => exact .need ih k
theorem Und.split {N : List (List Int)} {A : List Int} {w : Int} (h : Und N A w) : ∃ a ∈ A, Und N [a] w := by
  induction h with
  | ask h => exact ⟨_, h, .ask (by simp)⟩
  | need h k ih =>
    obtain ⟨a, ha, u⟩ := ih
    exact ⟨a, ha, .need u k⟩
/-- a truth, classically -/
noncomputable def dc (p : Prop) : Bool := @decide p (Classical.propDecidable p)
@[simp] theorem dc_iff {p : Prop} : dc p = true ↔ p := @decide_eq_true_iff p (Classical.propDecidable p)
theorem dc_congr {p q : Prop} (h : p ↔ q) : dc p = dc q := Bool.eq_iff_iff.mpr (dc_iff.trans (h.trans dc_iff.symm))
theorem dc_t {p : Prop} (h : p) : dc p = true := dc_iff.mpr h
theorem dc_f {p : Prop} (h : ¬ p) : dc p = false := by
  cases e : dc p
  · rfl
  · exact absurd (dc_iff.mp e) h
theorem dc_dec {p : Prop} [i : Decidable p] : dc p = decide p := by
  by_cases h : p
  · rw [dc_t h, decide_eq_true h]
  · rw [dc_f h, decide_eq_false h]
noncomputable def need (N : List (List Int)) (A : List Int) : List Int := (rg 0 N.length).filter fun w => dc (Und N A w)
theorem mem_need {N : List (List Int)} {A : List Int} {w : Int} (hN : netOk N) (hA : ∀ a ∈ A, 0 ≤ a ∧ a < N.length) : w ∈ need N A ↔ Und N A w := by
  unfold need
  rw [List.mem_filter, mem_rg]
  rw [dc_iff]
  exact ⟨fun h => h.2, fun h => ⟨h.range hN hA, h⟩⟩
theorem need_sorted (N : List (List Int)) (A : List Int) : (need N A).Pairwise (· < ·) := (rg_sorted _ _).sublist List.filter_sublist
theorem need_needs {N : List (List Int)} {A : List Int} (hN : netOk N) (hA : ∀ a ∈ A, 0 ≤ a ∧ a < N.length) : needsOk N.length (need N A) :=
  ⟨need_sorted N A, fun x hx => ((mem_need hN hA).mp hx).range hN hA⟩
theorem rg_atI {n : Nat} {w : Int} (h0 : 0 ≤ w) (h1 : w < n) : atI (rg 0 (n : Int)) w = some w := by
  rw [atI_get (by omega) (by simp; omega)]
  have := rg_get (List.getElem?_eq_getElem (l := rg 0 (n : Int)) (i := w.toNat) (by simp; omega))
  congr 1
  omega
theorem rg_setB {n : Nat} {y : Int} {f g : Int → Bool} (h0 : 0 ≤ y) (h1 : y < n) (hy : g y = true) (h : ∀ w, w ≠ y → g w = f w) : ((rg 0 (n : Int)).map fun w => D.bl (f w)).set y.toNat (.bl true) = (rg 0 (n : Int)).map fun w => D.bl (g w) := by
  refine List.ext_getElem (by simp) fun i k1 k2 => ?_
  rw [List.getElem_set]
  simp at k1
  have hg : (rg 0 (n : Int))[i]'(by simpa using k1) = (i : Int) := by
    have := rg_get (List.getElem?_eq_getElem (l := rg 0 (n : Int)) (i := i) (by simpa using k1))
    omega
  simp only [List.getElem_map, hg]
  split
  · rename_i c
    have : (i : Int) = y := by omega
    rw [this, hy]
  · rename_i c
    rw [h i (by omega)]
theorem rgC_eq (n : Nat) : rgC ((n : Int) - 1) (-1) n = ((List.range n).map fun k => (n : Int) - 1 - (k : Nat)).map .int := by
  unfold rgC
  rw [List.map_map]
  refine List.map_congr_left fun k hk => ?_
  show D.int ((n : Int) - 1 + (k : Nat) * (-1)) = D.int ((n : Int) - 1 - (k : Nat))
  congr 1
  omega
theorem rgC_pos {n : Nat} {pre post : List Int} {x : Int} (hx : (List.range n).map (fun k => (n : Int) - 1 - (k : Nat)) = pre ++ x :: post) : x = (n : Int) - 1 - pre.length ∧ 0 ≤ x ∧ x < n ∧ ∀ u, u ∈ pre ↔ x < u ∧ u < n := by
  have hlen := congrArg List.length hx
  simp at hlen
  have hxe : x = (n : Int) - 1 - pre.length := by
    have h2 := congrArg (fun l => l[pre.length]?) hx
    simp at h2
    rw [List.getElem?_range (by omega)] at h2
    simp at h2
    exact h2.symm
  refine ⟨hxe, by omega, by omega, fun u => ?_⟩
  have h2 : pre = ((List.range n).map fun k => (n : Int) - 1 - (k : Nat)).take pre.length := by rw [hx]; simp
  rw [h2, ← List.map_take, List.take_range]
  simp only [List.mem_map, List.mem_range]
  constructor
  · rintro ⟨k, hk, rfl⟩; omega
  · intro hu; exact ⟨((n : Int) - 1 - u).toNat, by omega, by omega⟩
noncomputable def fl0 (A : List Int) (w : Int) : Bool := dc (w ∈ A)
noncomputable def fl1 (N : List (List Int)) (A pre : List Int) (w : Int) : Bool := dc (w ∈ A ∨ ∃ u ∈ pre, Und N A u ∧ w ∈ nd N u)
noncomputable def fl2 (N : List (List Int)) (A pre pre2 : List Int) (w : Int) : Bool := dc (w ∈ A ∨ (∃ u ∈ pre, Und N A u ∧ w ∈ nd N u) ∨ w ∈ pre2)
theorem fl1_und {N : List (List Int)} {A pre : List Int} {x : Int} (hN : netOk N) (hA : ∀ a ∈ A, 0 ≤ a ∧ a < N.length) (hp : ∀ u, x < u ∧ u < N.length → u ∈ pre) : fl1 N A pre x = true ↔ Und N A x := by
  unfold fl1
  rw [dc_iff]
  constructor
  · rintro (h | ⟨u, _, h, k⟩)
    · exact .ask h
    · exact .need h k
  · intro h
    cases h with
    | ask h => exact .inl h
    | @need u _ h k =>
      have hr := h.range hN hA
      have := (nd_ok hN hr.1 hr.2).2 _ k
      exact .inr ⟨u, hp u ⟨by omega, hr.2⟩, h, k⟩
theorem all_needed_ok {N : List (List Int)} {A : List Int} {st : RSt} (hN : netOk N) (hA : ∀ a ∈ A, 0 ≤ a ∧ a < N.length) (hl : N.length ≤ 1000000) : d_all_needed [netD N, tI A] st = .ok (.lst true (isD (need N A))) st := by
  rw [d_all_needed, fnRes_eq]
  unfold g_all_needed
  simp
  rw [opMul_l (by simp) (by omega) (by simp; omega) (by omega)]
  simp
  rw [show (List.replicate N.length (D.bl false)) = (rg 0 N.length).map fun w => D.bl (fl0 [] w) by
    refine List.ext_getElem (by simp) fun i h1 h2 => ?_
    simp [fl0, dc_f]]
  obtain ⟨ρ', e, hI⟩ := forL_inv (t := tgN 3) (body := sSet 2 (evVar 3) (evC (D.bl true))) (fg := [3]) (toD := D.int) (fun (pre : List Int) (ρ : En) => ρ = ⟨[.sh (netD N), .sh (tI A), .ow (.lst true ((rg 0 N.length).map fun w => D.bl (fl0 pre w))), .no, .no], st⟩) A [] _ rfl (by
    rintro pre x post _ hx rfl
    refine ⟨_, rfl, ?_⟩
    have hx1 := hA x (by rw [List.nil_append] at hx; rw [hx]; simp)
    simp
    rw [ixN_get (by omega) (by omega)]
    simp
    have := rg_setB (n := N.length) (y := x) (f := fl0 pre) (g := fl0 (pre ++ [x])) hx1.1 hx1.2 (by simp [fl0]) (by intro w hw; simp [fl0, hw])
    simpa using this)
  rw [e, hI]
  simp
  rw [rgcK_ok _ _ _ (rgOk_of (by omega) (by omega) (by omega) (by omega)), show ((N.length : Int) - 1 - -1).toNat = N.length by omega, rgC_eq]
  simp only [forK_ok]
  clear e hI ρ'
  obtain ⟨ρ', e, hI⟩ := forL_inv (t := tgN 3) (body := sIf (evT (evOp [.var 2, .var 3] opIxA)) (sFor (itSeq (evOp [.var 0, .var 3] opIxA)) (tgN 4) (sSet 2 (evVar 4) (evC (D.bl true))) [4]) nxS) (fg := [3, 4]) (toD := D.int)
    (fun (pre : List Int) (ρ : En) => ρ = ⟨[.sh (netD N), .sh (tI A), .ow (.lst true ((rg 0 N.length).map fun w => D.bl (fl1 N A pre w))), .no, .no], st⟩) ((List.range N.length).map fun k => (N.length : Int) - 1 - (k : Nat)) [] ⟨[.sh (netD N), .sh (tI A), .ow (.lst true ((rg 0 N.length).map fun w => D.bl (fl0 A w))), .no, .no], st⟩ (by simp [fl0, fl1]) (by
    rintro pre x post _ hx rfl
    refine ⟨_, rfl, ?_⟩
    rw [List.nil_append] at hx
    obtain ⟨_, x0, x1, hpre⟩ := rgC_pos hx
    have hux := fl1_und (pre := pre) (x := x) hN hA fun u hu => (hpre u).mpr hu
    simp [rg_atI x0 x1]
    by_cases c : fl1 N A pre x = true
    · have cu := hux.mp c
      simp [c, ix_net x0 x1]
      refine ob_forL (fun pre2 ρ => ρ = ⟨[.sh (netD N), .sh (tI A), .ow (.lst true ((rg 0 N.length).map fun w => D.bl (fl2 N A pre pre2 w))), .sh (.int x), .no], st⟩) (by simp [fl1, fl2]) ?_ ?_
      · rintro pre2 y post2 _ hy rfl
        refine ⟨_, rfl, ?_⟩
        have hy1 := (nd_ok hN x0 x1).2 y (by rw [hy]; simp)
        simp
        rw [ixN_get (by omega) (by omega)]
        simp
        have := rg_setB (n := N.length) (y := y) (f := fl2 N A pre pre2) (g := fl2 N A pre (pre2 ++ [y])) (by omega) (by omega) (by simp [fl2]) (by intro w hw; simp [fl2, hw])
        simpa using this
      · rintro _ rfl
        simp
        intro a h1 h2
        unfold fl1 fl2
        refine dc_congr (or_congr_right ?_)
        constructor
        · rintro (⟨u, h, k⟩ | k)
          · exact ⟨u, by simp [h], k⟩
          · exact ⟨x, by simp, cu, k⟩
        · rintro ⟨u, h, k⟩
          rcases List.mem_append.mp h with h | h
          · exact .inl ⟨u, h, k⟩
          · simp at h; subst h; exact .inr k.2
    · have cu : ¬ Und N A x := fun z => c (hux.mpr z)
      simp [c]
      intro a h1 h2
      unfold fl1
      refine dc_congr (or_congr_right ?_)
      constructor
      · rintro ⟨u, h, k⟩
        exact ⟨u, by simp [h], k⟩
      · rintro ⟨u, h, k⟩
        rcases List.mem_append.mp h with h | h
        · exact ⟨u, h, k⟩
        · simp at h; subst h; exact absurd k.1 cu)
  rw [e, hI]
  simp
  rw [itRg1 (by omega) (by omega)]
  simp
  rw [lc_fm (fun w => fl1 N A ((List.range N.length).map fun k => (N.length : Int) - 1 - (k : Nat)) w) D.int]
  · simp
    unfold need
    refine congrArg (fun l => List.map D.int l) (List.filter_congr fun w hw => ?_)
    rw [mem_rg] at hw
    refine Bool.eq_iff_iff.mpr ?_
    refine (fl1_und hN hA fun u hu => ?_).trans dc_iff.symm
    exact List.mem_map.mpr ⟨((N.length : Int) - 1 - u).toNat, by simp; omega, by omega⟩
  · intro w hw
    rw [mem_rg] at hw
    simp [rg_atI hw.1 hw.2]
    by_cases c : fl1 N A ((List.range N.length).map fun k => (N.length : Int) - 1 - (k : Nat)) w = true
    · simp [c]
    · simp only [Bool.not_eq_true] at c
      simp [c]
end Cm

/- part CmF -/
namespace Cm
open PySem Fw L2
theorem tgtot {n m : Nat} {a b : Nat} (h1 : m + 1 ≤ n) (hb : b ≤ n) : a + b + (n - (m + 1)) * (n + 1) < a + 1 + (n - m) * (n + 1) := by
  have e : n - m = (n - (m + 1)) + 1 := by omega
  rw [e, Nat.add_mul]
  omega
theorem moExt_l {ds : List D} {o : Bool} {xs : List D} (h : shrL xs = true) (k : ds.length + xs.length ≤ sizeLine) : moExt ds (.lst o xs) = some (ds ++ xs) := by
  simp [moExt, h, k]
theorem moExt_t {ds : List D} {xs : List D} (h : shrL xs = true) (k : ds.length + xs.length ≤ sizeLine) : moExt ds (.tup xs) = some (ds ++ xs) := by
  simp [moExt, h, k]
theorem opSort_dI {α : Type} {f : α → D} {o : Bool} {m : List (Int × α)} (hz : (keysA m).length ≤ 16777216) : opSort [dI f o m] = some (.lst true ((sortI (keysA m)).map .int)) := by
  have := opSort_d o (m.map fun p => f p.2) hz
  rw [← this]
  simp [keysA, Function.comp_def]
theorem insU_len (x : Int) : ∀ xs : List Int, (insU x xs).length ≤ xs.length + 1
  | [] => by simp [insU]
  | y :: ys => by
    have := insU_len x ys
    unfold insU
    split
    · simp
    · split <;> simp <;> omega
theorem sortU_len : ∀ xs : List Int, (sortU xs).length ≤ xs.length
  | [] => by simp [sortU]
  | x :: xs => by
    have := insU_len x (sortU xs)
    have := sortU_len xs
    rw [sortU, List.length_cons]
    omega
theorem beneath_ok {N : List (List Int)} {A : List Int} {st : RSt} (hN : netOk N) (hA : ∀ a ∈ A, 0 ≤ a ∧ a < N.length) (hl : N.length ≤ 900) (hl2 : A.length ≤ 900) : d_law_beneath [netD N, tI A] st = .ok (.lst true (isD (need N A))) st := by
  suffices hs : Rb (d_law_beneath [netD N, tI A] st) fun d st' => d = .lst true (isD (need N A)) ∧ st' = st by
    obtain ⟨d, st', e, rfl, rfl⟩ := Rb_iff.mp hs
    exact e
  rw [d_law_beneath]; refine Rb.of ?_
  unfold g_law_beneath
  simp
  refine ob_sq (ob_wh (fun k ρ => ∃ (m : List (Int × Bool)) (p : List Int), ρ = ⟨[.sh (netD N), .sh (tI A), .ow (dI .bl true m), .ow (.lst true (isD p)), .no], st⟩ ∧ (keysA m).Nodup ∧ (∀ z ∈ keysA m, Und N A z) ∧ (∀ z ∈ p, Und N A z) ∧ (∀ a ∈ A, a ∈ keysA m ∨ a ∈ p) ∧ (∀ z ∈ keysA m, ∀ w ∈ nd N z, w ∈ keysA m ∨ w ∈ p) ∧ p.length + (N.length - m.length) * (N.length + 1) ≤ k ∧ k < 1000000) _ ?_ 1000000 (900 + 900 * 901) _ (by decide) ?_)
  · rintro k _ ⟨m, p, rfl, h1, h2, h3, h4, h5, h6, h7⟩
    simp
    by_cases hp : p = []
    · subst hp
      simp
      have hk : ∀ z, z ∈ keysA m ↔ Und N A z := fun z => ⟨h2 z, fun h => by
        induction h with
        | ask h => simpa using h4 _ h
        | need h k ih => simpa using h5 _ ih _ k⟩
      have hz : (keysA m).length ≤ 16777216 := by
        have := nodup_len h1 fun z hz => (h2 z hz).range hN hA
        omega
      rw [opSort_dI hz]
      simp
      refine congrArg (fun l => List.map D.int l) (strict_same (sortI_strict h1) (need_sorted N A) fun z => ?_)
      rw [(sortI_perm _).mem_iff, hk, mem_need hN hA]
    · obtain ⟨q, x, rfl⟩ := List.eq_nil_or_concat p |>.resolve_left hp
      simp [popK_ok]
      have hx := h3 x (by simp)
      have hr := hx.range hN hA
      by_cases c : x ∈ keysA m
      · simp [c]
        refine ⟨_, ?_, m, q, ⟨⟨rfl, rfl⟩, rfl⟩, h1, h2, fun z hz => h3 z (by simp [hz]), fun a ha => ?_, fun z hz w hw => ?_, Nat.le_refl _, ?_⟩
        · simp at h6; omega
        · rcases h4 a ha with h | h
          · exact .inl h
          · simp at h
            rcases h with h | rfl
            · exact .inr h
            · exact .inl c
        · rcases h5 z hz w hw with h | h
          · exact .inl h
          · simp at h
            rcases h with h | rfl
            · exact .inr h
            · exact .inl c
        · simp at h6; omega
      · have hnn := nd_ok hN hr.1 hr.2
        have hnl := sorted_len hnn.1 hnn.2
        have hml : m.length < N.length := by
          have h8 : ((x :: keysA m)).Nodup := List.nodup_cons.mpr ⟨c, h1⟩
          have := nodup_len h8 (a := 0) (b := N.length) fun z hz => by
            rcases List.mem_cons.mp hz with rfl | hz
            · exact hr
            · exact (h2 z hz).range hN hA
          simp [keysA] at this
          omega
        simp [c]
        rw [stk_int (v := true) .bl h1 (by rw [sizeLine_eq]; omega)]
        simp [ix_net hr.1 hr.2]
        rw [moExt_t (by simp) (by simp at h6; simp [sizeLine_eq]; omega)]
        simp
        have hpl : (putA m x true).length = m.length + 1 := by
          rw [← keys_len, keysA_put, if_neg c, List.length_append, keys_len]; rfl
        refine ⟨_, ?_, putA m x true, q ++ nd N x, ⟨by simp, by simp⟩, nodup_put h1, fun z hz => ?_, fun z hz => ?_, fun a ha => ?_, fun z hz w hw => ?_, Nat.le_refl _, ?_⟩
        · rw [hpl, List.length_append]
          simp at h6
          have := tgtot (n := N.length) (m := m.length) (a := q.length) (b := (nd N x).length) (by omega) (by omega)
          omega
        · rcases mem_put.mp hz with rfl | hz
          · exact hx
          · exact h2 z hz
        · rcases List.mem_append.mp hz with hz | hz
          · exact h3 z (by simp [hz])
          · exact .need hx hz
        · rcases h4 a ha with h | h
          · exact .inl (mem_put.mpr (.inr h))
          · simp at h
            rcases h with h | rfl
            · exact .inr (by simp [h])
            · exact .inl (mem_put.mpr (.inl rfl))
        · rcases mem_put.mp hz with rfl | hz
          · exact .inr (by simp [hw])
          · rcases h5 z hz w hw with h | h
            · exact .inl (mem_put.mpr (.inr h))
            · simp at h
              rcases h with h | rfl
              · exact .inr (by simp [h])
              · exact .inl (mem_put.mpr (.inl rfl))
        · rw [hpl, List.length_append]
          simp at h6
          have := tgtot (n := N.length) (m := m.length) (a := q.length) (b := (nd N x).length) (by omega) (by omega)
          omega
  · refine ⟨[], A, rfl, by simp, by simp, fun z hz => .ask hz, fun a ha => .inr ha, by simp, ?_, by decide⟩
    simp
    have : N.length * (N.length + 1) ≤ 900 * 901 := Nat.mul_le_mul (by omega) (by omega)
    omega
/-- asked works -/
theorem asked_ok {N : List (List Int)} {st : RSt} {r : Nat} (hn0 : 1 ≤ N.length) (hn : N.length ≤ 1000000) (g : Gd (r + 5) st) : Rb (d_law_asked [.rs, netD N] st) fun d st' => ∃ A, d = tI A ∧ needsOk N.length A ∧ A ≠ [] ∧ A.length ≤ 4 ∧ Gd r st' := by
  rw [d_law_asked]; refine Rb.of ?_
  unfold g_law_asked
  obtain ⟨a, st1, e1, a0, a1, g1⟩ := take_gd (r := r + 4) (n := if (3 : Int) < N.length then 3 else N.length) g (by split <;> omega) (by split <;> omega)
  obtain ⟨b, st2, e2, b0, b1, g2⟩ := take_gd (r := r + 3) (n := 4) g1 (by decide) (by decide)
  obtain ⟨s, hs0, es⟩ := atI_some (xs := [0, 0, 1, (3 : Int)]) (i := b) (by omega) (by simp; omega)
  have es' : atI [D.int 0, D.int 0, D.int 1, D.int 3] b = some (.int s) := by
    have := congrArg (Option.map D.int) es
    rwa [← atI_map] at this
  have hs1 : 0 ≤ s ∧ s ≤ 3 := by simp at hs0; omega
  have ha : 0 ≤ (N.length : Int) - 1 - a := by split at a1 <;> omega
  simp [e1, e2, es']
  rw [itRg1 (by omega) (by omega)]
  simp
  refine ob_for (fun pre ρ => ∃ acc st', ρ = ⟨[.sh .rs, .sh (netD N), .ow (.lst true (isD acc)), .no], st'⟩ ∧ acc.length = pre.length + 1 ∧ (∀ x ∈ acc, 0 ≤ x ∧ x < N.length) ∧ Gd (r + (3 - pre.length)) st') ?_ ?_ ?_
  · exact ⟨[(N.length : Int) - 1 - a], st2, rfl, by simp, by simp; omega, g2⟩
  · rintro pre x post _ hx ⟨acc, st2, rfl, ha, hb, g2⟩
    refine ⟨_, rfl, ?_⟩
    have hl := congrArg List.length hx
    simp at hl
    obtain ⟨y, st3, e3, y0, y1, g3⟩ := take_gd (r := r + (3 - (pre.length + 1))) (n := N.length) (g2.mono (by omega)) (by omega) (by omega)
    simp [e3]
    rw [moApp_i (by simp [sizeLine_eq]; omega)]
    simp
    refine ⟨acc ++ [y], st3, by simp, by simp; omega, ?_, g3.mono (by omega)⟩
    intro z hz
    rcases List.mem_append.mp hz with hz | hz
    · exact hb z hz
    · simp at hz; omega
  · rintro _ ⟨acc, st2, rfl, ha, hb, g2⟩
    simp at ha
    simp
    rw [opSSet_i true (by omega)]
    simp
    refine ⟨sortU acc, rfl, ⟨sortU_sorted acc, fun x hx => hb x (sortU_mem.mp hx)⟩, ?_, ?_, g2.mono (by omega)⟩
    · intro z
      cases acc with
      | nil => simp at ha
      | cons x xs =>
        have : x ∈ sortU (x :: xs) := sortU_mem.mpr (by simp)
        rw [z] at this
        simp at this
    · have := sortU_len acc
      omega
theorem need_alone {N : List (List Int)} {A : List Int} (hN : netOk N) (hA : ∀ a ∈ A, 0 ≤ a ∧ a < N.length) : sortU (A.flatMap fun a => need N [a]) = need N A := by
  symm
  refine sortU_eq (need_sorted N A) fun z => ?_
  rw [mem_need hN hA, List.mem_flatMap]
  have h1 : ∀ a ∈ A, ∀ b ∈ [a], 0 ≤ b ∧ b < (N.length : Int) := fun a ha b hb => by simp at hb; subst hb; exact hA _ ha
  constructor
  · intro h
    obtain ⟨a, ha, u⟩ := h.split
    exact ⟨a, ha, (mem_need hN (h1 a ha)).mpr u⟩
  · rintro ⟨a, ha, u⟩
    exact ((mem_need hN (h1 a ha)).mp u).mono fun b hb => by simp at hb; subst hb; exact .ask ha
end Cm

/- part CmG -/
namespace Cm
open PySem Fw L2
/-! ### stands and plans -/
abbrev Mv := Str × Int
def behindF (S : List Int) (m : Mv) : List Int := if m.1 = "do" then sortI (S ++ [m.2]) else S.filter fun w => !decide (w = m.2)
def runP (N : List (List Int)) (rooms : Int) : List Int → List Mv → List (List Int) × Option Str
  | _, [] => ([], none)
  | S, m :: ms => match fault N rooms S m.1 m.2 with
    | some x => ([], some x)
    | none => (behindF S m :: (runP N rooms (behindF S m) ms).1, (runP N rooms (behindF S m) ms).2)
def endP (N : List (List Int)) (rooms : Int) : List Int → List Mv → Option (List Int)
  | S, [] => some S
  | S, m :: ms => match fault N rooms S m.1 m.2 with
    | some _ => none
    | none => endP N rooms (behindF S m) ms
theorem endP_append {N : List (List Int)} {rooms : Int} : ∀ {S : List Int} {a b : List Mv}, endP N rooms S (a ++ b) = (endP N rooms S a).bind fun S' => endP N rooms S' b
  | S, [], b => rfl
  | S, m :: a, b => by
    rw [List.cons_append, endP, endP]
    cases fault N rooms S m.1 m.2 with
    | some x => rfl
    | none => exact endP_append
theorem endP_run {N : List (List Int)} {rooms : Int} : ∀ {S S' : List Int} {ms : List Mv}, endP N rooms S ms = some S' → (runP N rooms S ms).2 = none ∧ ∃ pre, S :: (runP N rooms S ms).1 = pre ++ [S']
  | S, S', [], e => by
    cases e
    exact ⟨rfl, [], rfl⟩
  | S, S', m :: ms, e => by
    rw [endP] at e
    rw [runP]
    cases hf : fault N rooms S m.1 m.2 with
    | some x => rw [hf] at e; cases e
    | none =>
      rw [hf] at e
      obtain ⟨h1, pre, h2⟩ := endP_run e
      exact ⟨h1, S :: pre, by simp only; rw [h2]; rfl⟩
theorem runP_len {N : List (List Int)} {rooms : Int} : ∀ {S : List Int} {ms : List Mv}, (runP N rooms S ms).1.length ≤ ms.length
  | S, [] => Nat.le_refl _
  | S, m :: ms => by
    rw [runP]
    split
    · simp
    · have := runP_len (N := N) (rooms := rooms) (S := behindF S m) (ms := ms)
      simp; omega
theorem behind_ok {S : List Int} {m : Mv} {st : RSt} (hS : S.length < 1000000) : d_law_behind [tI S, mvD m] st = .ok (tI (behindF S m)) st := by
  obtain ⟨word, w⟩ := m
  rw [d_law_behind, fnRes_eq]
  unfold g_law_behind behindF
  have e0 : atI [D.str word, D.int w] 0 = some (.str word) := rfl
  have e1 : atI [D.str word, D.int w] 1 = some (.int w) := rfl
  by_cases c : word = "do"
  · simp [c, e1]
    rw [opAdd_t (by simp) (by simp) (by simp [sizeLine_eq]; omega)]
    have hs : opSort [D.tup (List.map D.int S ++ [D.int w])] = some (.lst true (isD (sortI (S ++ [w])))) := by
      rw [show List.map D.int S ++ [D.int w] = (S ++ [w]).map D.int by simp, opSort_t]
    simp [hs]
  · simp [c, e0]
    rw [lc_fm (fun x => !decide (x = w)) D.int]
    · simp
    · intro x hx
      by_cases h : x = w <;> simp [e1, h]
theorem atI_last {α : Type} {xs : List α} {x : α} : atI (xs ++ [x]) (-1) = some x := by
  unfold atI
  have : ixN (xs ++ [x]).length (-1) = some xs.length := by
    unfold ixN
    rw [if_neg (by omega), if_pos (by simp; omega)]
    simp
    omega
  rw [this]
  simp
theorem played_ok {N : List (List Int)} {rooms : Int} {ms : List Mv} {st : RSt} (hm : ∀ m ∈ ms, 0 ≤ m.2 ∧ m.2 < N.length) (hl : ms.length < 900000) : d_law_played [netD N, .int rooms, .lst false (ms.map mvD)] st = .ok (.tup [.lst true (([] :: (runP N rooms [] ms).1).map tI), optD (runP N rooms [] ms).2]) st := by
  suffices hs : Rb (d_law_played [netD N, .int rooms, .lst false (ms.map mvD)] st) fun d st' => d = (.tup [.lst true (([] :: (runP N rooms [] ms).1).map tI), optD (runP N rooms [] ms).2]) ∧ st' = st by
    obtain ⟨d, st', e, rfl, rfl⟩ := Rb_iff.mp hs
    exact e
  rw [d_law_played]; refine Rb.of ?_
  unfold g_law_played
  simp
  refine ob_sq (Ob.mono (forL_inv2 (toD := mvD) (fun pre ρ => ∃ post T S, ms = pre ++ post ∧ ρ = ⟨[.sh (netD N), .sh (.int rooms), .sh (.lst false (ms.map mvD)), .ow (.lst true ((T ++ [S]).map tI)), .no, .no], st⟩ ∧ T.length ≤ pre.length ∧ S.length ≤ pre.length ∧
      ([] :: (runP N rooms [] ms).1) = T ++ (S :: (runP N rooms S post).1) ∧ (runP N rooms [] ms).2 = (runP N rooms S post).2)
    (fun fl ρ => fl = .rt (.tup [.lst true (([] :: (runP N rooms [] ms).1).map tI), optD (runP N rooms [] ms).2]) ∧ ρ.st = st) ms [] _ ⟨ms, [], [], rfl, by simp, by simp, by simp, rfl, rfl⟩ ?_) ?_)
  · rintro pre m post _ hx ⟨post', T, S, hp, rfl, hT, hS, h1, h2⟩
    rw [List.nil_append] at hx
    have hpp : post' = m :: post := List.append_cancel_left (hp.symm.trans hx)
    subst hpp
    have hlen := congrArg List.length hx
    simp at hlen
    refine ⟨_, rfl, ?_⟩
    have hm' := hm m (by rw [hx]; simp)
    obtain ⟨word, w⟩ := m
    have ef := word_ok (N := N) (rooms := rooms) (S := S) (word := word) (w := w) (st := st) hm'.1 hm'.2
    have eb := behind_ok (S := S) (m := (word, w)) (st := st) (by omega)
    have el : atI (List.map tI T ++ [tI S]) (-1) = some (tI S) := atI_last
    rw [runP] at h1 h2
    simp only [tI, isD] at el
    cases hf : fault N rooms S word w with
    | some x =>
      rw [hf] at ef
      simp only [hf] at h1 h2
      simp [el, ef]
      simp [optD, opNoN]
      have h3 := congrArg (List.map tI) h1
      simp only [List.map_append, List.map_cons, List.map_nil] at h3
      exact ⟨h3.symm, by rw [h2]⟩
    | none =>
      rw [hf] at ef
      simp only [hf] at h1 h2
      simp [el, ef]
      simp [optD, opNoN, el, eb]
      rw [moApp_i (by simp [sizeLine_eq]; omega)]
      simp
      refine ⟨post, hx, T ++ [S], behindF S (word, w), by simp, by simp; omega, ?_, by rw [h1]; simp, h2⟩
      unfold behindF
      split
      · rw [(sortI_perm _).length_eq]; simp; omega
      · have := List.length_filter_le (fun x => !decide (x = w)) S
        simp only; omega
  · rintro fl ρ (⟨rfl, post, T, S, hp, rfl, hT, hS, h1, h2⟩ | ⟨rfl, hst⟩)
    · have hpp : post = [] := by
        have := congrArg List.length hp
        rw [List.nil_append, List.length_append] at this
        exact List.length_eq_zero_iff.mp (by omega)
      subst hpp
      simp [runP] at h1 h2
      have h3 := congrArg (List.map tI) h1
      simp only [List.map_append, List.map_cons, List.map_nil] at h3
      simp
      exact ⟨h3.symm, by rw [h2]; rfl⟩
    · obtain ⟨vs, st'⟩ := ρ
      simp at hst
      simp [hst]
theorem is_move_ok {N : List (List Int)} {m : Mv} {st : RSt} (hw : m.1 = "do" ∨ m.1 = "clear") (h0 : 0 ≤ m.2) (h1 : m.2 < N.length) : d_law_is_move [netD N, mvD m] st = .ok (.bl true) st := by
  obtain ⟨word, w⟩ := m
  rw [d_law_is_move, fnRes_eq]
  unfold g_law_is_move
  have e0 : atI [D.str word, D.int w] 0 = some (.str word) := rfl
  have e1 : atI [D.str word, D.int w] 1 = some (.int w) := rfl
  have e2 : opIn true [.str word, .tup [.str "do", .str "clear"]] = some (.bl false) := by
    rcases hw with rfl | rfl <;> rfl
  simp [e0, e1, e2, tyD, PT.is]
  simp [h0, h1]
theorem does_ok {N : List (List Int)} {rooms : Int} {ms : List Mv} {A S : List Int} {st : RSt} (hm : ∀ m ∈ ms, (m.1 = "do" ∨ m.1 = "clear") ∧ 0 ≤ m.2 ∧ m.2 < N.length) (hl : ms.length < 900000) (he : endP N rooms [] ms = some S) : d_law_does [netD N, .int rooms, .lst false (ms.map mvD), tI A] st = .ok (.bl (A.all fun a => decide (a ∈ S))) st := by
  rw [d_law_does, fnRes_eq]
  unfold g_law_does
  have ep := played_ok (N := N) (rooms := rooms) (ms := ms) (st := st) (fun m h => (hm m h).2) hl
  obtain ⟨h1, pre, h2⟩ := endP_run he
  rw [h1, h2] at ep
  have el : atI (List.map tI pre ++ [tI S]) (-1) = some (tI S) := atI_last
  simp [tyD, PT.is]
  rw [lc_map (fun _ => .bl true)]
  · have : ∀ ms : List Mv, ms.all (fun _ => true) = true := fun ms => by simp
    have ea : opAll [.lst true (ms.map fun _ => D.bl true)] = some (.bl true) := by rw [opAll_b (f := fun _ => true), this]
    simp [ea]
    simp [ep, optD]
    rw [lc_map (fun a => .bl (decide (a ∈ S)))]
    · rw [lstK_ok, opsK1_ok, evOps_nil, opsK2_ok, opK_ok, opAll_b]
      simp
    · intro a ha
      simp [el]
  · intro m hmm
    have := is_move_ok (N := N) (m := m) (st := st) (hm m hmm).1 (hm m hmm).2.1 (hm m hmm).2.2
    simp [this]
end Cm

/- part CmH -/
namespace Cm
open PySem Fw L2
/-! ### the plan of an order -/
def clr (u : Int) : Mv := ("clear", u)
def goneR (N : List (List Int)) (A : List Int) (w : Int) (ws : List Int) : List Int := (nd N w).filter fun u => !decide (u ∈ A) && ws.all fun v => !decide (u ∈ nd N v)
def planR (N : List (List Int)) (A : List Int) : List Int → List Mv
  | [] => []
  | w :: ws => ("do", w) :: ((goneR N A w ws).map clr ++ planR N A ws)
/-- a work's result is kept: it is asked for, or needed later -/
def keep (N : List (List Int)) (A ws : List Int) (u : Int) : Bool := decide (u ∈ A) || ws.any fun v => decide (u ∈ nd N v)
theorem keep_iff {N : List (List Int)} {A ws : List Int} {u : Int} : keep N A ws u = true ↔ u ∈ A ∨ ∃ v ∈ ws, u ∈ nd N v := by
  simp [keep]
theorem mem_gone {N : List (List Int)} {A ws : List Int} {u w : Int} : u ∈ goneR N A w ws ↔ u ∈ nd N w ∧ keep N A ws u = false := by
  unfold goneR keep
  rw [List.mem_filter]
  simp
/-- an order in which each work stands behind its needs, and is needed later if it is not asked for -/
structure GoodO (N : List (List Int)) (A O : List Int) : Prop where
  nd : O.Nodup
  rng : ∀ w ∈ O, 0 ≤ w ∧ w < N.length
  bef : ∀ pre w ws, O = pre ++ w :: ws → (∀ u ∈ Cm.nd N w, u ∈ pre) ∧ keep N A ws w = true
/-- what is there behind pre, ws being left -/
def thF (N : List (List Int)) (A pre ws : List Int) : List Int := pre.filter (keep N A ws)
theorem keep_cons {N : List (List Int)} {A ws : List Int} {u w : Int} : keep N A (w :: ws) u = (decide (u ∈ nd N w) || keep N A ws u) := by
  unfold keep
  rw [List.any_cons]
  cases decide (u ∈ A) <;> cases decide (u ∈ nd N w) <;> simp
theorem gone_eq {N : List (List Int)} {A pre ws O : List Int} {w : Int} (hN : netOk N) (g : GoodO N A O) (e : O = pre ++ w :: ws) : (sortI (thF N A pre (w :: ws) ++ [w])).filter (fun u => !keep N A ws u) = goneR N A w ws := by
  obtain ⟨h1, h2⟩ := g.bef _ _ _ e
  have hw := g.rng w (by rw [e]; simp)
  have hnp : (pre ++ [w]).Nodup := by
    have := g.nd
    rw [e, show pre ++ w :: ws = pre ++ [w] ++ ws by simp] at this
    exact (List.nodup_append.mp this).1
  have hnt : (thF N A pre (w :: ws) ++ [w]).Nodup := by
    rw [List.nodup_append] at hnp ⊢
    exact ⟨hnp.1.sublist List.filter_sublist, hnp.2.1, fun a ha b hb => hnp.2.2 a (List.mem_filter.mp ha).1 b hb⟩
  refine strict_same ((sortI_strict hnt).sublist List.filter_sublist) ((nd_ok hN hw.1 hw.2).1.sublist List.filter_sublist) fun u => ?_
  rw [List.mem_filter, (sortI_perm _).mem_iff, mem_gone]
  unfold thF
  simp only [List.mem_append, List.mem_filter, List.mem_singleton, keep_cons, Bool.not_eq_true', Bool.or_eq_true, decide_eq_true_eq]
  constructor
  · rintro ⟨⟨_, h | h⟩ | rfl, k⟩
    · exact ⟨h, k⟩
    · rw [h] at k; cases k
    · rw [h2] at k; cases k
  · rintro ⟨h, k⟩
    exact ⟨.inl ⟨h1 u h, .inl h⟩, k⟩
theorem th_next {N : List (List Int)} {A pre ws O : List Int} {w : Int} (g : GoodO N A O) (e : O = pre ++ w :: ws) : (thF N A pre (w :: ws) ++ [w]).filter (keep N A ws) = thF N A (pre ++ [w]) ws := by
  obtain ⟨h1, h2⟩ := g.bef _ _ _ e
  unfold thF
  rw [List.filter_append, List.filter_append, List.filter_filter]
  congr 1
  refine List.filter_congr fun u hu => ?_
  rw [keep_cons]
  cases keep N A ws u <;> simp
theorem sortI_filter {xs : List Int} (h : xs.Nodup) (p : Int → Bool) : (sortI xs).filter p = sortI (xs.filter p) := by
  refine strict_same ((sortI_strict h).sublist List.filter_sublist) (sortI_strict (h.sublist List.filter_sublist)) fun z => ?_
  rw [List.mem_filter, (sortI_perm _).mem_iff, (sortI_perm _).mem_iff, List.mem_filter]
theorem fault_do {N : List (List Int)} {rooms : Int} {S : List Int} {w : Int} (h1 : w ∉ S) (h2 : ∀ u ∈ nd N w, u ∈ S) (h3 : (S.length : Int) < rooms) : fault N rooms S "do" w = none := by
  unfold fault
  rw [if_neg (by decide), if_neg h1, if_neg, if_pos h3]
  unfold ready
  simp
  exact h2
theorem fault_clear {N : List (List Int)} {rooms : Int} {S : List Int} {w : Int} (h1 : w ∈ S) : fault N rooms S "clear" w = none := by
  unfold fault
  rw [if_pos rfl, if_pos h1]
theorem endP_clears {N : List (List Int)} {rooms : Int} : ∀ {G S : List Int}, G.Nodup → (∀ u ∈ G, u ∈ S) → endP N rooms S (G.map clr) = some (S.filter fun u => !decide (u ∈ G))
  | [], S, _, _ => by
    show some S = _
    congr 1
    symm
    rw [List.filter_eq_self]
    simp
  | g :: G, S, hn, hs => by
    rw [List.map_cons, endP, show (clr g).1 = "clear" from rfl, show (clr g).2 = g from rfl, fault_clear (hs g (by simp))]
    have hb : behindF S (clr g) = S.filter fun u => !decide (u = g) := by
      unfold behindF
      rw [if_neg (by show ¬ ("clear" : Str) = "do"; decide)]
      rfl
    obtain ⟨n1, n2⟩ := List.nodup_cons.mp hn
    simp only
    rw [hb, endP_clears n2 fun u hu => List.mem_filter.mpr ⟨hs u (by simp [hu]), by simp; rintro rfl; exact n1 hu⟩, List.filter_filter]
    congr 1
    refine List.filter_congr fun u hu => ?_
    by_cases c : u = g <;> by_cases c2 : u ∈ G <;> simp [c, c2]
theorem keep_nil {N : List (List Int)} {A : List Int} {u : Int} : keep N A [] u = decide (u ∈ A) := by simp [keep]
theorem plan_end' {N : List (List Int)} {A O : List Int} {rooms : Int} (hN : netOk N) (hr : (N.length : Int) ≤ rooms) (g : GoodO N A O) : ∀ (ws pre : List Int), O = pre ++ ws → endP N rooms (sortI (thF N A pre ws)) (planR N A ws) = some (sortI (thF N A O []))
  | [], pre, e => by
    rw [List.append_nil] at e
    subst e
    rfl
  | w :: ws, pre, e => by
    obtain ⟨h1, h2⟩ := g.bef _ _ _ e
    have hnp : (pre ++ [w]).Nodup := by
      have := g.nd
      rw [e, show pre ++ w :: ws = pre ++ [w] ++ ws by simp] at this
      exact (List.nodup_append.mp this).1
    have hp := List.nodup_append.mp hnp
    have hnt : (thF N A pre (w :: ws) ++ [w]).Nodup := by
      rw [List.nodup_append]
      exact ⟨hp.1.sublist List.filter_sublist, hp.2.1, fun a ha b hb => hp.2.2 a (List.mem_filter.mp ha).1 b hb⟩
    have hnt1 := (List.nodup_append.mp hnt).1
    have hwt : w ∉ thF N A pre (w :: ws) := fun z => (List.nodup_append.mp hnt).2.2 w z w (by simp) rfl
    have hlen : (thF N A pre (w :: ws)).length + 1 ≤ N.length := by
      have := nodup_len hnt (a := 0) (b := N.length) fun x hx => g.rng x (by
        rw [e]
        rcases List.mem_append.mp hx with hx | hx
        · exact List.mem_append_left _ (List.mem_filter.mp hx).1
        · simp at hx; subst hx; simp)
      simp at this
      omega
    rw [planR, endP, show fault N rooms (sortI (thF N A pre (w :: ws))) ("do", w).1 ("do", w).2 = none from fault_do (by rw [(sortI_perm _).mem_iff]; exact hwt) (fun u hu => by
      rw [(sortI_perm _).mem_iff]
      exact List.mem_filter.mpr ⟨h1 u hu, by rw [keep_cons]; simp [hu]⟩) (by rw [(sortI_perm _).length_eq]; omega)]
    simp only
    have hb : behindF (sortI (thF N A pre (w :: ws))) ("do", w) = sortI (thF N A pre (w :: ws) ++ [w]) := by
      unfold behindF
      rw [if_pos rfl]
      refine sortI_eq ?_ (sortI_sorted _)
      exact (sortI_perm _).trans ((sortI_perm _).append_right _)
    rw [hb, endP_append]
    have hg := gone_eq hN g e
    rw [endP_clears (by rw [← hg]; exact (List.Nodup.sublist List.filter_sublist ((sortI_perm _).nodup_iff.mpr hnt))) (fun u hu => by rw [← hg] at hu; exact (List.mem_filter.mp hu).1)]
    simp only [Option.bind_some]
    have hf : (sortI (thF N A pre (w :: ws) ++ [w])).filter (fun u => !decide (u ∈ goneR N A w ws)) = sortI (thF N A (pre ++ [w]) ws) := by
      rw [← th_next g e, ← sortI_filter hnt]
      refine List.filter_congr fun u hu => ?_
      rw [← hg]
      cases hk : keep N A ws u
      · simp [hk, hu]
      · simp [hk]
    rw [hf]
    exact plan_end' hN hr g ws (pre ++ [w]) (by rw [e]; simp)
theorem plan_end {N : List (List Int)} {A O : List Int} {rooms : Int} (hN : netOk N) (hr : (N.length : Int) ≤ rooms) (g : GoodO N A O) (hA : A.Pairwise (· < ·)) (hAO : ∀ a ∈ A, a ∈ O) : endP N rooms [] (planR N A O) = some A := by
  have := plan_end' hN hr g O [] rfl
  rw [show sortI (thF N A [] O) = [] from rfl] at this
  rw [this]
  congr 1
  refine strict_same (sortI_strict (g.nd.sublist List.filter_sublist)) hA fun z => ?_
  rw [(sortI_perm _).mem_iff]
  unfold thF
  rw [List.mem_filter, keep_nil, decide_eq_true_eq]
  exact ⟨fun h => h.2, fun h => ⟨hAO z h, h⟩⟩
theorem planR_moves {N : List (List Int)} {A : List Int} (hN : netOk N) : ∀ {O : List Int}, (∀ w ∈ O, 0 ≤ w ∧ w < N.length) → ∀ m ∈ planR N A O, (m.1 = "do" ∨ m.1 = "clear") ∧ 0 ≤ m.2 ∧ m.2 < N.length
  | [], _, m, hm => by simp [planR] at hm
  | w :: ws, h, m, hm => by
    rw [planR] at hm
    have hw := h w (by simp)
    rcases List.mem_cons.mp hm with rfl | hm
    · exact ⟨.inl rfl, hw⟩
    · rcases List.mem_append.mp hm with hm | hm
      · obtain ⟨u, hu, rfl⟩ := List.mem_map.mp hm
        have := (nd_ok hN hw.1 hw.2).2 u (mem_gone.mp hu).1
        exact ⟨.inr rfl, this.1, by show u < _; omega⟩
      · exact planR_moves hN (fun v hv => h v (by simp [hv])) m hm
theorem planR_dos {N : List (List Int)} {A : List Int} : ∀ {O : List Int}, ((planR N A O).filter fun m => decide (m.1 = ("do" : Str))).map (·.2) = O
  | [] => rfl
  | w :: ws => by
    rw [planR, List.filter_cons_of_pos (by rfl), List.filter_append]
    have : ((goneR N A w ws).map clr).filter (fun m => decide (m.1 = ("do" : Str))) = [] := by
      rw [List.filter_eq_nil_iff]
      intro m hm
      obtain ⟨u, _, rfl⟩ := List.mem_map.mp hm
      show ¬ decide (("clear" : Str) = "do") = true
      decide
    rw [this, List.nil_append, List.map_cons, planR_dos]
theorem planR_len {N : List (List Int)} {A : List Int} (hN : netOk N) : ∀ {O : List Int}, (∀ w ∈ O, 0 ≤ w ∧ w < N.length) → (planR N A O).length ≤ O.length * (N.length + 1)
  | [], _ => by simp [planR]
  | w :: ws, h => by
    have hw := h w (by simp)
    have h1 := nd_ok hN hw.1 hw.2
    have h2 := sorted_len h1.1 h1.2
    have h3 : (goneR N A w ws).length ≤ (nd N w).length := List.length_filter_le _ _
    have ih := planR_len (A := A) (O := ws) hN fun v hv => h v (by simp [hv])
    rw [planR]
    simp only [List.length_cons, List.length_append, List.length_map, Nat.add_mul]
    omega
theorem need_good {N : List (List Int)} {A : List Int} (hN : netOk N) (hA : ∀ a ∈ A, 0 ≤ a ∧ a < N.length) : GoodO N A (need N A) := by
  refine ⟨List.nodup_iff_pairwise_ne.mpr ((need_sorted N A).imp fun h => by omega), fun w hw => ((mem_need hN hA).mp hw).range hN hA, fun pre w ws e => ?_⟩
  have hs := need_sorted N A
  rw [e, List.pairwise_append] at hs
  obtain ⟨hs1, hs2, hs3⟩ := hs
  have hs2 := (List.pairwise_cons.mp hs2).1
  have hw : w ∈ need N A := by rw [e]; simp
  have uw := (mem_need hN hA).mp hw
  have rw' := uw.range hN hA
  constructor
  · intro u hu
    have uu : u ∈ need N A := (mem_need hN hA).mpr (.need uw hu)
    have := (nd_ok hN rw'.1 rw'.2).2 u hu
    rw [e] at uu
    rcases List.mem_append.mp uu with h | h
    · exact h
    · rcases List.mem_cons.mp h with h | h
      · omega
      · have := hs2 u h; omega
  · rw [keep_iff]
    cases uw with
    | ask h => exact .inl h
    | @need v _ h k =>
      have hv : v ∈ need N A := (mem_need hN hA).mpr h
      have hr := h.range hN hA
      have := (nd_ok hN hr.1 hr.2).2 w k
      rw [e] at hv
      rcases List.mem_append.mp hv with h | h
      · have := hs3 v h w (by simp); omega
      · rcases List.mem_cons.mp h with h | h
        · omega
        · exact .inr ⟨v, h, k⟩
theorem need_asked {N : List (List Int)} {A : List Int} (hN : netOk N) (hA : ∀ a ∈ A, 0 ≤ a ∧ a < N.length) : ∀ a ∈ A, a ∈ need N A := fun a ha => (mem_need hN hA).mpr (.ask ha)
/-! ### the walks -/
theorem need_law_ok {N : List (List Int)} {A : List Int} {st : RSt} (hN : netOk N) (hA : ∀ a ∈ A, 0 ≤ a ∧ a < N.length) (hl : N.length ≤ 1000000) : d_law_needed [netD N, tI A] st = .ok (.lst true (isD (need N A))) st := by
  rw [d_law_needed, fnRes_eq]
  unfold g_law_needed
  simp
  rw [opMul_l (by simp) (by omega) (by simp; omega) (by omega)]
  simp
  rw [rgcK_ok _ _ _ (rgOk_of (by omega) (by omega) (by omega) (by omega)), show ((N.length : Int) - 1 - -1).toNat = N.length by omega, rgC_eq]
  simp only [forK_ok]
  rw [show (List.replicate N.length (D.bl false)) = (rg 0 N.length).map fun w => D.bl (fl0 [] w) by
    refine List.ext_getElem (by simp) fun i h1 h2 => ?_
    simp [fl0, dc_f]]
  -- asked ones are marked as they come
  let fa : List Int → Int → Bool := fun pre w => dc ((w ∈ pre ∧ w ∈ A) ∨ ∃ u ∈ pre, Und N A u ∧ w ∈ nd N u)
  let fb : List Int → Int → List Int → Int → Bool := fun pre x pre2 w => dc (((w ∈ pre ∨ w = x) ∧ w ∈ A) ∨ (∃ u ∈ pre, Und N A u ∧ w ∈ nd N u) ∨ w ∈ pre2)
  have f0 : fl0 [] = fa [] := funext fun w => dc_congr (by simp)
  rw [f0]
  obtain ⟨ρ', e, hI⟩ := forL_inv (t := tgN 3) (body := sqS (sIf (evTOp [.var 3, .var 1] (opIn false)) (sSet 2 (evVar 3) (evC (.bl true))) nxS) (sIf (evT (evOp [.var 2, .var 3] opIxA)) (sFor (itSeq (evOp [.var 0, .var 3] opIxA)) (tgN 4) (sSet 2 (evVar 4) (evC (.bl true))) [4]) nxS)) (fg := [3, 4]) (toD := D.int)
    (fun (pre : List Int) (ρ : En) => ρ = ⟨[.sh (netD N), .sh (tI A), .ow (.lst true ((rg 0 N.length).map fun w => D.bl (fa pre w))), .no, .no], st⟩) ((List.range N.length).map fun k => (N.length : Int) - 1 - (k : Nat)) [] ⟨[.sh (netD N), .sh (tI A), .ow (.lst true ((rg 0 N.length).map fun w => D.bl (fa [] w))), .no, .no], st⟩ rfl (by
    rintro pre x post _ hx rfl
    refine ⟨_, rfl, ?_⟩
    rw [List.nil_append] at hx
    obtain ⟨_, x0, x1, hpre⟩ := rgC_pos hx
    have xp : x ∉ pre := fun z => by have := (hpre x).mp z; omega
    have key : fb pre x [] x = true ↔ Und N A x := by
      show dc _ = true ↔ _
      rw [dc_iff]
      constructor
      · rintro (h | ⟨u, _, h, k⟩ | h)
        · exact .ask h.2
        · exact .need h k
        · exact absurd h (by simp)
      · intro h
        cases h with
        | ask h => exact .inl ⟨.inr rfl, h⟩
        | @need u _ h k =>
          have hr := h.range hN hA
          have := (nd_ok hN hr.1 hr.2).2 _ k
          exact .inr (.inl ⟨u, (hpre u).mpr ⟨by omega, hr.2⟩, h, k⟩)
    have step : ∀ Q, Ob (ifK (sFor (itSeq (evOp [.var 0, .var 3] opIxA)) (tgN 4) (sSet 2 (evVar 4) (evC (.bl true))) [4]) nxS (.ok (fb pre x [] x) ⟨[.sh (netD N), .sh (tI A), .ow (.lst true ((rg 0 N.length).map fun w => D.bl (fb pre x [] w))), .sh (.int x), .no], st⟩)) Q ↔ Ob (ifK (sFor (itSeq (evOp [.var 0, .var 3] opIxA)) (tgN 4) (sSet 2 (evVar 4) (evC (.bl true))) [4]) nxS (.ok (fb pre x [] x) ⟨[.sh (netD N), .sh (tI A), .ow (.lst true ((rg 0 N.length).map fun w => D.bl (fb pre x [] w))), .sh (.int x), .no], st⟩)) Q := fun Q => Iff.rfl
    have fin : Ob (ifK (sFor (itSeq (evOp [.var 0, .var 3] opIxA)) (tgN 4) (sSet 2 (evVar 4) (evC (.bl true))) [4]) nxS (.ok (fb pre x [] x) ⟨[.sh (netD N), .sh (tI A), .ow (.lst true ((rg 0 N.length).map fun w => D.bl (fb pre x [] w))), .sh (.int x), .no], st⟩)) fun fl ρ2 => (fl = .nx ∨ fl = .ct) ∧ (⟨fgt ρ2.vs [3, 4], ρ2.st⟩ : En) = ⟨[.sh (netD N), .sh (tI A), .ow (.lst true ((rg 0 N.length).map fun w => D.bl (fa (pre ++ [x]) w))), .no, .no], st⟩ := by
      by_cases c : fb pre x [] x = true
      · have cu := key.mp c
        simp [c, ix_net x0 x1]
        refine ob_forL (fun pre2 ρ => ρ = ⟨[.sh (netD N), .sh (tI A), .ow (.lst true ((rg 0 N.length).map fun w => D.bl (fb pre x pre2 w))), .sh (.int x), .no], st⟩) rfl ?_ ?_
        · rintro pre2 y post2 _ hy rfl
          refine ⟨_, rfl, ?_⟩
          have hy1 := (nd_ok hN x0 x1).2 y (by rw [hy]; simp)
          simp
          rw [ixN_get (by omega) (by omega)]
          simp
          have := rg_setB (n := N.length) (y := y) (f := fb pre x pre2) (g := fb pre x (pre2 ++ [y])) (by omega) (by omega) (dc_t (by simp)) (by intro w hw; exact dc_congr (by simp [hw]))
          simpa using this
        · rintro _ rfl
          simp
          intro a h1 h2
          refine dc_congr ?_
          simp only [List.mem_append, List.mem_singleton]
          refine or_congr_right ?_
          constructor
          · rintro (⟨u, h, k⟩ | k)
            · exact ⟨u, .inl h, k⟩
            · exact ⟨x, .inr rfl, cu, k⟩
          · rintro ⟨u, h | rfl, k⟩
            · exact .inl ⟨u, h, k⟩
            · exact .inr k.2
      · have cu : ¬ Und N A x := fun z => c (key.mpr z)
        simp [c]
        intro a h1 h2
        refine dc_congr ?_
        simp only [List.mem_append, List.mem_singleton]
        refine or_congr_right ?_
        constructor
        · rintro (⟨u, h, k⟩ | k)
          · exact ⟨u, .inl h, k⟩
          · exact absurd k (by simp)
        · rintro ⟨u, h | rfl, k⟩
          · exact .inl ⟨u, h, k⟩
          · exact absurd k.1 cu
    by_cases ha : x ∈ A
    · simp [ha]
      rw [ixN_get (by omega) (by omega)]
      simp
      have e2 := rg_setB (n := N.length) (y := x) (f := fa pre) (g := fb pre x []) x0 x1 (dc_t (.inl ⟨.inr rfl, ha⟩)) (by intro w hw; exact dc_congr (by simp [hw]))
      rw [e2]
      simp [rg_atI x0 x1]
      simpa using fin
    · have e2 : (fun w => D.bl (fa pre w)) = fun w => D.bl (fb pre x [] w) := funext fun w => congrArg D.bl (dc_congr (by
        by_cases hw : w = x
        · subst hw; simp [ha]
        · simp [hw]))
      rw [e2]
      simp [ha, rg_atI x0 x1]
      simpa using fin)
  rw [e, hI]
  simp
  rw [itRg1 (by omega) (by omega)]
  simp
  rw [lc_fm (fun w => fa ((List.range N.length).map fun k => (N.length : Int) - 1 - (k : Nat)) w) D.int]
  · simp
    unfold need
    refine congrArg (fun l => List.map D.int l) (List.filter_congr fun w hw => dc_congr ?_)
    rw [mem_rg] at hw
    have all : ∀ u : Int, 0 ≤ u → u < N.length → u ∈ (List.range N.length).map fun k => (N.length : Int) - 1 - (k : Nat) := fun u u0 u1 => List.mem_map.mpr ⟨((N.length : Int) - 1 - u).toNat, by simp; omega, by omega⟩
    constructor
    · rintro (h | ⟨u, _, h, k⟩)
      · exact .ask h.2
      · exact .need h k
    · intro h
      cases h with
      | ask h => exact .inl ⟨all w hw.1 hw.2, h⟩
      | @need u _ h k =>
        have hr := h.range hN hA
        exact .inr ⟨u, all u hr.1 hr.2, h, k⟩
  · intro w hw
    rw [mem_rg] at hw
    simp [rg_atI hw.1 hw.2]
    by_cases c : fa ((List.range N.length).map fun k => (N.length : Int) - 1 - (k : Nat)) w = true
    · simp [c]
    · simp only [Bool.not_eq_true] at c
      simp [c]
end Cm

/- part CmQ -/
namespace Cm
open PySem Fw L2
/-! ### plans that are walked at random -/
def lack (N : List (List Int)) (S : List Int) (w : Int) : List Int := (nd N w).filter fun u => !decide (u ∈ S)
theorem lack_lc {N : List (List Int)} {S : List Int} {w : Int} {vs : List Sv} {st : RSt} (hv : vs = [.sh .rs, .sh (netD N), .sh (tI S), .sh (.int w), .no, .no] ∨ ∃ d, vs = [.sh .rs, .sh (netD N), .sh (tI S), .sh (.int w), .ow d, .no]) :
    lcL (tgN 5) (evTOp [(.var 5), (.var 2)] (opIn true)) (evVar 5) [5] ((nd N w).map .int) ⟨vs, st⟩ = .ok ((lack N S w).map .int) ⟨vs, st⟩ := by
  rw [lc_fm (fun u => !decide (u ∈ S)) (fun u => D.int u)]
  · rfl
  · intro u hu
    rcases hv with rfl | ⟨d, rfl⟩ <;> by_cases c : u ∈ S <;> simp [c]
theorem next_work_ok {N : List (List Int)} {S : List Int} {st : RSt} {r : Nat} (hN : netOk N) (hn0 : 1 ≤ N.length) (hn : N.length ≤ 1000) (g : Gd (r + N.length + 1) st) :
    Rb (d_law_next_work [.rs, netD N, tI S] st) fun d st' => ∃ w, d = .int w ∧ 0 ≤ w ∧ w < N.length ∧ (∀ u ∈ nd N w, u ∈ S) ∧ Gd r st' := by
  rw [d_law_next_work]; refine Rb.of ?_
  unfold g_law_next_work
  obtain ⟨w0, st1, e1, a0, a1, g1⟩ := take_gd (r := r + N.length) (n := N.length) (g.mono (by omega)) (by omega) (by omega)
  simp [e1, ix_net a0 a1]
  rw [lack_lc (.inl rfl)]
  simp
  refine ob_sq (ob_wh (fun k ρ => ∃ w st2, ρ = ⟨[.sh .rs, .sh (netD N), .sh (tI S), .sh (.int w), .ow (.lst true (isD (lack N S w))), .no], st2⟩ ∧ 0 ≤ w ∧ w < N.length ∧ k = w.toNat ∧ Gd (r + k) st2) _ ?_ 1000000 w0.toNat _ (by omega) ⟨w0, st1, by simp, a0, a1, rfl, g1.mono (by omega)⟩)
  rintro k _ ⟨w, st2, rfl, b0, b1, rfl, g2⟩
  have hnd := nd_ok hN b0 b1
  by_cases c : lack N S w = []
  · have ne0 : opNe [D.lst true [], D.lst true []] = some (.bl false) := by simpa using opNe_l0 true true []
    simp [c, ne0]
    refine ⟨b0, b1, fun u hu => ?_, g2.mono (by omega)⟩
    by_cases cu : u ∈ S
    · exact cu
    · have : u ∈ lack N S w := List.mem_filter.mpr ⟨hu, by simp [cu]⟩
      rw [c] at this; cases this
  · have hl : 0 < (lack N S w).length := List.length_pos_iff.mpr c
    have hw : 0 < w := by
      obtain ⟨u, hu⟩ := List.exists_mem_of_ne_nil _ c
      have := hnd.2 u (List.mem_filter.mp hu).1
      omega
    have hll : (lack N S w).length ≤ N.length := by
      have h1 := List.length_filter_le (fun u => !decide (u ∈ S)) (nd N w)
      have h2 := sorted_len hnd.1 hnd.2
      show (List.filter _ _).length ≤ _
      omega
    obtain ⟨j, st3, e3, j0, j1, g3⟩ := take_gd (r := r + (w.toNat - 1)) (n := (lack N S w).length) (g2.mono (by omega)) (by omega) (by omega)
    obtain ⟨u, hu, eu⟩ := atI_some j0 (show j < (lack N S w).length by omega)
    have hun := hnd.2 u (List.mem_filter.mp hu).1
    simp [c, e3, eu, ix_net (N := N) (o := u) hun.1 (by omega)]
    rw [lack_lc (.inr ⟨_, rfl⟩)]
    simp
    refine ⟨u.toNat, by omega, u, ?_⟩
    exact ⟨_, ⟨⟨rfl, rfl⟩, rfl⟩, hun.1, by omega, rfl, g3.mono (by omega)⟩
theorem behind_needs {n : Int} {S : List Int} {m : Mv} (h : needsOk n S) (h0 : 0 ≤ m.2) (h1 : m.2 < n) (h2 : m.1 = "do" → m.2 ∉ S) : needsOk n (behindF S m) := by
  unfold behindF
  split
  · rename_i e
    refine ⟨sortI_strict ?_, fun x hx => ?_⟩
    · rw [List.nodup_append]
      refine ⟨List.nodup_iff_pairwise_ne.mpr (h.1.imp fun h => by omega), by simp, fun a ha b hb => ?_⟩
      simp at hb
      subst hb
      rintro rfl
      exact h2 e ha
    · have := (sortI_perm _).mem_iff.mp hx
      rcases List.mem_append.mp this with z | z
      · exact h.2 x z
      · simp at z; subst z; exact ⟨h0, h1⟩
  · exact ⟨h.1.sublist List.filter_sublist, fun x hx => h.2 x (List.mem_filter.mp hx).1⟩
theorem behind_len {S : List Int} {m : Mv} : (behindF S m).length ≤ S.length + 1 := by
  unfold behindF
  split
  · rw [(sortI_perm _).length_eq]; simp
  · have := List.length_filter_le (fun w => !decide (w = m.2)) S
    omega
theorem behind_clear {S : List Int} {w : Int} (h : w ∈ S) : (behindF S ("clear", w)).length + 1 ≤ S.length := by
  unfold behindF
  rw [if_neg (show ¬ (("clear" : Str) = "do") by decide)]
  have : ∀ S : List Int, w ∈ S → (S.filter fun x => !decide (x = w)).length + 1 ≤ S.length := fun S => by
    induction S with
    | nil => intro h; cases h
    | cons a S ih =>
      intro h
      by_cases c : a = w
      · subst c
        have := List.length_filter_le (fun x => !decide (x = a)) S
        simp; exact this
      · have h' : w ∈ S := by
          rcases List.mem_cons.mp h with z | z
          · exact absurd z.symm c
          · exact z
        have := ih h'
        simp [c]; exact this
  exact this S h
/-- moves of works of the net -/
def MvOk (N : List (List Int)) (ms : List Mv) : Prop := ∀ m ∈ ms, (m.1 = "do" ∨ m.1 = "clear") ∧ 0 ≤ m.2 ∧ m.2 < N.length
theorem MvOk.append {N : List (List Int)} {a b : List Mv} (h : MvOk N a) (k : MvOk N b) : MvOk N (a ++ b) := fun m hm => by
  rcases List.mem_append.mp hm with z | z
  · exact h m z
  · exact k m z
theorem MvOk.sub {N : List (List Int)} {a b : List Mv} (h : MvOk N a) (k : ∀ m ∈ b, m ∈ a) : MvOk N b := fun m hm => h m (k m hm)
theorem walk_ok {N : List (List Int)} {rooms many : Int} {st : RSt} {r : Nat} (hN : netOk N) (hn0 : 1 ≤ N.length) (hn : N.length ≤ 1000) (h0 : 1 ≤ rooms) (hm0 : 0 ≤ many) (hm1 : many ≤ 100000) (g : Gd (r + many.toNat * (N.length + 2)) st) :
    Rb (d_law_walk [.rs, netD N, .int rooms, .int many] st) fun d st' => ∃ P S, d = .tup [.lst true (P.map mvD), tI S] ∧ MvOk N P ∧ P.length = many.toNat ∧ endP N rooms [] P = some S ∧ needsOk N.length S ∧ (S.length : Int) ≤ rooms ∧ Gd r st' := by
  rw [d_law_walk]; refine Rb.of ?_
  unfold g_law_walk
  simp
  rw [itRg1 (by omega) (by omega)]
  simp
  refine ob_for (fun pre ρ => ∃ P S st1, ρ = ⟨[.sh .rs, .sh (netD N), .sh (.int rooms), .sh (.int many), .ow (.lst true (P.map mvD)), .sh (tI S), .no, .no, .no], st1⟩ ∧ MvOk N P ∧ P.length = pre.length ∧ endP N rooms [] P = some S ∧ needsOk N.length S ∧ (S.length : Int) ≤ rooms ∧ Gd (r + (many.toNat - pre.length) * (N.length + 2)) st1) ⟨[], [], st, by simp, by intro m hm; simp at hm, rfl, by simp [endP], ⟨by simp, by simp⟩, by simp; omega, by simpa using g⟩ ?_ ?_
  · rintro pre x post _ hx ⟨P, S, st1, rfl, hP, hl, he, hS, hr, g1⟩
    refine ⟨_, rfl, ?_⟩
    have hlen := congrArg List.length hx
    simp at hlen
    have hg : (many.toNat - pre.length) * (N.length + 2) = (many.toNat - (pre.length + 1)) * (N.length + 2) + (N.length + 2) := by
      rw [show many.toNat - pre.length = (many.toNat - (pre.length + 1)) + 1 by omega, Nat.succ_mul]
    rw [hg] at g1
    obtain ⟨_, st2, e2, w, rfl, w0, w1, hw, g2⟩ := Rb_iff.mp (next_work_ok (S := S) (r := r + (many.toNat - (pre.length + 1)) * (N.length + 2) + 1) hN hn0 hn (g1.mono (by omega)))
    have hSl : S.length ≤ N.length := by
      have := sorted_len hS.1 hS.2
      omega
    have stp : ∀ (m : Mv) (st3 : RSt), (m.1 = "do" ∨ m.1 = "clear") → 0 ≤ m.2 → m.2 < N.length → fault N rooms S m.1 m.2 = none → (m.1 = "do" → m.2 ∉ S) → ((behindF S m).length : Int) ≤ rooms → Gd (r + (many.toNat - (pre.length + 1)) * (N.length + 2)) st3 →
        Ob ((sqS (sMe1 moApp 4 (evVar 8)) (sAs 5 (evCall Cm.d_law_behind [(.var 5), (.var 8)]))) ⟨[.sh .rs, .sh (netD N), .sh (.int rooms), .sh (.int many), .ow (.lst true (P.map mvD)), .sh (tI S), .sh (.int x), .sh (.int w), .sh (mvD m)], st3⟩) fun fl ρ2 => (fl = .nx ∨ fl = .ct) ∧
          ∃ P S st1, (⟨fgt ρ2.vs [6, 7, 8], ρ2.st⟩ : En) = ⟨[.sh .rs, .sh (netD N), .sh (.int rooms), .sh (.int many), .ow (.lst true (P.map mvD)), .sh (tI S), .no, .no, .no], st1⟩ ∧ MvOk N P ∧ P.length = (pre ++ [x]).length ∧ endP N rooms [] P = some S ∧ needsOk N.length S ∧ (S.length : Int) ≤ rooms ∧ Gd (r + (many.toNat - (pre ++ [x]).length) * (N.length + 2)) st1 := by
      intro m st3 m1 m2 m3 hf hd hb g3
      have eb := behind_ok (S := S) (m := m) (st := st3) (by omega)
      simp
      rw [moApp_i (by rw [sizeLine_eq]; simp; omega)]
      simp at eb ⊢
      simp [eb]
      refine ⟨P ++ [m], behindF S m, st3, ⟨⟨by simp, rfl⟩, rfl⟩, hP.append (fun z hz => by simp at hz; subst hz; exact ⟨m1, m2, m3⟩), by simp; omega, ?_, behind_needs hS m2 m3 hd, hb, g3⟩
      rw [endP_append, he]
      simp [endP, hf]
    have hcd : ("clear" : Str) ≠ "do" := by decide
    by_cases c : w ∈ S
    · have a0 : atI [D.str "clear", D.int w] 0 = some (.str "clear") := rfl
      have := stp ("clear", w) st2 (.inr rfl) w0 w1 (fault_clear c) (fun z => absurd z hcd) (by have := behind_clear c; omega) (g2.mono (by omega))
      simp [e2, c, a0, hcd]
      by_cases c2 : rooms ≤ (S.length : Int)
      · simp [c2, hcd]; simpa [mvD] using this
      · simp [c2, hcd]; simpa [mvD] using this
    · have a0 : atI [D.str "do", D.int w] 0 = some (.str "do") := rfl
      by_cases c2 : rooms ≤ (S.length : Int)
      · obtain ⟨j, st3, e3, j0, j1, g3⟩ := take_gd (r := r + (many.toNat - (pre.length + 1)) * (N.length + 2)) (n := S.length) (g2.mono (by omega)) (by omega) (by omega)
        obtain ⟨u, hu, eu⟩ := atI_some j0 (show j < S.length by omega)
        have hun := hS.2 u hu
        have := stp ("clear", u) st3 (.inr rfl) hun.1 hun.2 (fault_clear hu) (fun z => absurd z hcd) (by have := behind_clear hu; omega) g3
        simp [e2, c, a0, c2, e3, eu]
        simpa [mvD] using this
      · have := stp ("do", w) st2 (.inl rfl) w0 w1 (fault_do c hw (by omega)) (fun _ => c) (by have := behind_len (S := S) (m := ("do", w)); omega) (g2.mono (by omega))
        simp [e2, c, a0, c2]
        simpa [mvD] using this
  · rintro _ ⟨P, S, st1, rfl, hP, hl, he, hS, hr, g1⟩
    simp
    refine ⟨P, S, by simp, hP, by simpa using hl, he, hS, hr, g1.mono (Nat.le_add_right _ _)⟩
theorem case_ok {st : RSt} {r : Nat} (g : Gd (r + 5 + 2 + 9 * 30 + 3) st) : Rb (d_law_case [.rs] st) fun d st' => ∃ N A, d = .tup [netD N, tI A] ∧ netOk N ∧ 1 ≤ N.length ∧ N.length ≤ 30 ∧ needsOk N.length A ∧ A ≠ [] ∧ A.length ≤ 4 ∧ Gd r st' := by
  rw [d_law_case]; refine Rb.of ?_
  unfold g_law_case
  obtain ⟨a, st1, e1, a0, a1, g1⟩ := take_gd (r := r + 5 + 2 + 9 * 30 + 2) (n := 8) (g.mono (by omega)) (by decide) (by decide)
  obtain ⟨b, st2, e2, b0, b1, g2⟩ := take_gd (r := r + 5 + 2 + 9 * 30 + 1) (n := 8) g1 (by decide) (by decide)
  have rest : ∀ (n : Int) (st3 : RSt), 1 ≤ n → n ≤ 30 → Gd (r + 5 + 2 + 9 * 30) st3 → Ob (sqS (sAs 2 (evCall Cm.d_law_net [(.var 0), (.var 1)])) (sRet (evTup [(evVar 2), (evCall Cm.d_law_asked [(.var 0), (.var 2)])])) ⟨[.sh .rs, .sh (.int n), .no], st3⟩) (rtQ fun d st' => ∃ N A, d = .tup [netD N, tI A] ∧ netOk N ∧ 1 ≤ N.length ∧ N.length ≤ 30 ∧ needsOk N.length A ∧ A ≠ [] ∧ A.length ≤ 4 ∧ Gd r st') := by
    intro n st3 n0 n1 g3
    obtain ⟨_, st4, e4, N, rfl, hN, hl, g4⟩ := Rb_iff.mp (net_ok (n := n) (r := r + 5) (by omega) (by omega) (g3.mono (by omega)))
    obtain ⟨_, st5, e5, A, rfl, hA, hA0, hA1, g5⟩ := Rb_iff.mp (asked_ok (N := N) (r := r) (by omega) (by omega) g4)
    simp [e4, e5]
    exact ⟨N, A, ⟨rfl, rfl⟩, hN, by omega, by omega, hA, hA0, hA1, g5⟩
  by_cases c : b = 0
  · obtain ⟨d, st3, e3, d0, d1, g3⟩ := take_gd (r := r + 5 + 2 + 9 * 30) (n := 22) g2 (by decide) (by decide)
    have := rest (9 + d) st3 (by omega) (by omega) g3
    simp [e1, e2, c, e3]
    simpa using this
  · have := rest (1 + a) st2 (by omega) (by omega) (g2.mono (by omega))
    simp [e1, e2, c]
    simpa using this
/-! ### moved, played of the program -/
theorem fault_len {N : List (List Int)} {rooms : Int} {S : List Int} {w : Str} {u : Int} {x : Str} (h : fault N rooms S w u = some x) : x.length ≤ 1000 := by
  unfold fault at h
  repeat (split at h <;> try (cases h <;> decide))
theorem stand_behind_ok {S : List Int} {m : Mv} {st : RSt} (hS : S.length < 1000000) : d_stand_behind [tI S, mvD m] st = .ok (tI (behindF S m)) st := by
  obtain ⟨word, w⟩ := m
  rw [d_stand_behind, fnRes_eq]
  unfold g_stand_behind
  by_cases c : word = ("do" : Str)
  · subst c
    simp [behindF]
    rw [opAdd_t (by simp) (by simp) (by rw [sizeLine_eq]; simp; omega)]
    have h2 : opSort [.tup (S.map .int ++ [.int w])] = some (.lst true ((sortI (S ++ [w])).map .int)) := by simpa using opSort_t (S ++ [w])
    simp [h2]
  · simp [behindF, c]
    rw [lc_fm (fun u => !decide (u = w)) (fun u => D.int u)]
    · simp
    · intro u hu
      by_cases cu : u = w <;> simp [cu]
theorem moved_ok {N : List (List Int)} {rooms : Int} {S : List Int} {m : Mv} {st : RSt} (h0 : 0 ≤ m.2) (h1 : m.2 < N.length) (hS : S.length < 1000000) : d_moved [netD N, .int rooms, tI S, mvD m] st = match fault N rooms S m.1 m.2 with | none => .ok (tI (behindF S m)) st | some w => .ex (exB 0 w) st := by
  rw [d_moved, fnRes_eq]
  unfold g_moved
  obtain ⟨word, w⟩ := m
  have ef := fault_ok (N := N) (rooms := rooms) (S := S) (word := word) (w := w) (st := st) h0 h1
  have eb := stand_behind_ok (S := S) (m := (word, w)) (st := st) hS
  cases hf : fault N rooms S word w with
  | none =>
    rw [hf] at ef
    simp [hf, ef, eb, optD, opNoN]
  | some x =>
    rw [hf] at ef
    simp [hf, ef, optD, opNoN]
    rw [rx_bar (by decide) (by decide) (fault_len hf)]
    simp
theorem played_loop {N : List (List Int)} {rooms : Int} {ms0 : D} {st : RSt} : ∀ (ms : List Mv) (k : Nat) (T : List (List Int)) (S : List Int), (∀ m ∈ ms, 0 ≤ m.2 ∧ m.2 < N.length) → T.length + ms.length < 900000 → k + ms.length < 900000 → S.length + ms.length < 900000 →
    (runP N rooms S ms).2 = none ∧ forL (tgT [4, 5]) (sqS (sAs 6 (evCall Cm.d_fault_of [(.var 0), (.var 1), (.val (evOp [(.var 3), (.val (evOp [(.val (evC (.int 1)))] opNeg))] opIxA)), (.var 5)])) (sqS (sIf (evTOp [(.var 6), (.val (evC .non))] opNoN) (sRaiseX "Barred" fdBar [(.var 4), (.var 6)]) nxS) (sMe1 moApp 3 (evCall Cm.d_moved [(.var 0), (.var 1), (.val (evOp [(.var 3), (.val (evOp [(.val (evC (.int 1)))] opNeg))] opIxA)), (.var 5)])))) [4, 5, 6] ((ms.zipIdx k).map fun p => .tup [.int (p.2 : Nat), mvD p.1]) ⟨[.sh (netD N), .sh (.int rooms), .sh ms0, .ow (.lst true ((T ++ [S]).map tI)), .no, .no, .no], st⟩
        = .ok .nx ⟨[.sh (netD N), .sh (.int rooms), .sh ms0, .ow (.lst true ((T ++ S :: (runP N rooms S ms).1).map tI)), .no, .no, .no], st⟩ ∨
    ∃ w vs, (runP N rooms S ms).2 = some w ∧ forL (tgT [4, 5]) (sqS (sAs 6 (evCall Cm.d_fault_of [(.var 0), (.var 1), (.val (evOp [(.var 3), (.val (evOp [(.val (evC (.int 1)))] opNeg))] opIxA)), (.var 5)])) (sqS (sIf (evTOp [(.var 6), (.val (evC .non))] opNoN) (sRaiseX "Barred" fdBar [(.var 4), (.var 6)]) nxS) (sMe1 moApp 3 (evCall Cm.d_moved [(.var 0), (.var 1), (.val (evOp [(.var 3), (.val (evOp [(.val (evC (.int 1)))] opNeg))] opIxA)), (.var 5)])))) [4, 5, 6] ((ms.zipIdx k).map fun p => .tup [.int (p.2 : Nat), mvD p.1]) ⟨[.sh (netD N), .sh (.int rooms), .sh ms0, .ow (.lst true ((T ++ [S]).map tI)), .no, .no, .no], st⟩
        = .ex (exB (k + (runP N rooms S ms).1.length : Nat) w) ⟨vs, st⟩
  | [], k, T, S, _, _, _, _ => .inl ⟨rfl, by simp [runP]⟩
  | (word, w) :: ms, k, T, S, hm, hT, hk, hS => by
    have hm' := hm (word, w) List.mem_cons_self
    simp at hT hk hS
    have ef := fault_ok (N := N) (rooms := rooms) (S := S) (word := word) (w := w) (st := st) hm'.1 hm'.2
    have em := moved_ok (N := N) (rooms := rooms) (S := S) (m := (word, w)) (st := st) hm'.1 hm'.2 (by omega)
    have el : atI (List.map tI T ++ [tI S]) (-1) = some (tI S) := atI_last
    simp only [tI, isD] at el
    rw [runP]
    cases hf : fault N rooms S word w with
    | none =>
      rw [hf] at ef
      simp only [hf] at em
      have hb := behind_len (S := S) (m := (word, w))
      have ih := played_loop (rooms := rooms) (ms0 := ms0) (st := st) ms (k + 1) (T ++ [S]) (behindF S (word, w)) (fun m h => hm m (List.mem_cons_of_mem _ h)) (by simp; omega) (by omega) (by omega)
      have step : ∀ (zs : List D) (Y : Out Fl), (forL (tgT [4, 5]) (sqS (sAs 6 (evCall Cm.d_fault_of [(.var 0), (.var 1), (.val (evOp [(.var 3), (.val (evOp [(.val (evC (.int 1)))] opNeg))] opIxA)), (.var 5)])) (sqS (sIf (evTOp [(.var 6), (.val (evC .non))] opNoN) (sRaiseX "Barred" fdBar [(.var 4), (.var 6)]) nxS) (sMe1 moApp 3 (evCall Cm.d_moved [(.var 0), (.var 1), (.val (evOp [(.var 3), (.val (evOp [(.val (evC (.int 1)))] opNeg))] opIxA)), (.var 5)])))) [4, 5, 6] zs ⟨[.sh (netD N), .sh (.int rooms), .sh ms0, .ow (.lst true ((T ++ [S] ++ [behindF S (word, w)]).map tI)), .no, .no, .no], st⟩ = Y) →
          forL (tgT [4, 5]) (sqS (sAs 6 (evCall Cm.d_fault_of [(.var 0), (.var 1), (.val (evOp [(.var 3), (.val (evOp [(.val (evC (.int 1)))] opNeg))] opIxA)), (.var 5)])) (sqS (sIf (evTOp [(.var 6), (.val (evC .non))] opNoN) (sRaiseX "Barred" fdBar [(.var 4), (.var 6)]) nxS) (sMe1 moApp 3 (evCall Cm.d_moved [(.var 0), (.var 1), (.val (evOp [(.var 3), (.val (evOp [(.val (evC (.int 1)))] opNeg))] opIxA)), (.var 5)])))) [4, 5, 6] (.tup [.int (k : Nat), mvD (word, w)] :: zs) ⟨[.sh (netD N), .sh (.int rooms), .sh ms0, .ow (.lst true ((T ++ [S]).map tI)), .no, .no, .no], st⟩ = Y := by
        rintro zs Y rfl
        rw [forL_cons]
        simp [el, ef, optD, opNoN, em]
        rw [moApp_i (by simp [sizeLine_eq]; omega)]
        simp
      simp only [hf]
      rcases ih with ⟨i1, i2⟩ | ⟨x, vs, i1, i2⟩
      · refine .inl ⟨i1, ?_⟩
        rw [List.zipIdx_cons, List.map_cons]
        refine step _ _ ?_
        rw [i2]
        simp
      · refine .inr ⟨x, vs, i1, ?_⟩
        rw [List.zipIdx_cons, List.map_cons]
        refine step _ _ ?_
        rw [i2]
        simp only [List.length_cons]
        congr 2
        omega
    | some x =>
      rw [hf] at ef
      refine .inr ⟨x, [.sh (netD N), .sh (.int rooms), .sh ms0, .ow (.lst true ((T ++ [S]).map tI)), .sh (.int k), .sh (mvD (word, w)), .sh (.str x)], rfl, ?_⟩
      rw [List.zipIdx_cons, List.map_cons, forL_cons]
      simp [el, ef, optD, opNoN]
      rw [rx_bar (by omega) (by omega) (fault_len hf)]
      simp
/-- what played tells, or refuses -/
theorem prog_played_ok {N : List (List Int)} {rooms : Int} {ms : List Mv} {o : Bool} {st : RSt} (hm : ∀ m ∈ ms, 0 ≤ m.2 ∧ m.2 < N.length) (hl : ms.length < 900000) : d_played [netD N, .int rooms, .lst false (ms.map mvD)] st = match (runP N rooms [] ms).2 with | none => .ok (.lst true (([] :: (runP N rooms [] ms).1).map tI)) st | some w => .ex (exB ((runP N rooms [] ms).1.length : Nat) w) st := by
  rw [d_played, fnRes_eq]
  unfold g_played
  simp
  have h := played_loop (N := N) (rooms := rooms) (ms0 := .lst false (ms.map mvD)) (st := st) ms 0 [] [] hm (by simp; omega) (by omega) (by simp; omega)
  simp only [List.nil_append, List.map_cons, List.map_nil, Nat.zero_add, show (tI [] : D) = .tup [] from rfl] at h
  rcases h with ⟨h1, h2⟩ | ⟨w, vs, h1, h2⟩
  · simp [h1, h2]
  · simp [h1, h2]
end Cm

/- part CmI -/
namespace Cm
open PySem Fw L2
theorem zipIdx_split {α : Type} {O : List α} {pre post : List (α × Nat)} {p : α × Nat} (e : O.zipIdx = pre ++ p :: post) : ∃ O1 ws, O = O1 ++ p.1 :: ws ∧ p.2 = O1.length ∧ post = ws.zipIdx (p.2 + 1) ∧ pre = O1.zipIdx := by
  have h1 : O = pre.map (·.1) ++ p.1 :: post.map (·.1) := by
    have := congrArg (List.map (·.1)) e
    simpa using this
  refine ⟨pre.map (·.1), post.map (·.1), h1, ?_⟩
  have h2 : O.zipIdx = (pre.map (·.1)).zipIdx ++ (p.1, (pre.map (·.1)).length) :: (post.map (·.1)).zipIdx ((pre.map (·.1)).length + 1) := by
    conv => lhs; rw [h1]
    rw [List.zipIdx_append, List.zipIdx_cons, Nat.zero_add]
  rw [e] at h2
  obtain ⟨h3, h4⟩ := List.append_inj h2 (by simp)
  injection h4 with h5 h6
  have h7 : p.2 = (pre.map (·.1)).length := by rw [h5]
  exact ⟨h7, by rw [h7]; exact h6, h3⟩
/-- the last place at which a work is needed -/
def lastI (N : List (List Int)) : List (Int × Nat) → Int → Option Nat
  | [], _ => none
  | p :: ps, u => match lastI N ps u with
    | some j => some j
    | none => if u ∈ nd N p.1 then some p.2 else none
theorem lastI_append {N : List (List Int)} {q : Int × Nat} {u : Int} : ∀ {ps : List (Int × Nat)}, lastI N (ps ++ [q]) u = if u ∈ nd N q.1 then some q.2 else lastI N ps u
  | [] => by simp [lastI]
  | p :: ps => by
    rw [List.cons_append, lastI, lastI_append (ps := ps), lastI]
    by_cases c : u ∈ nd N q.1
    · simp [c]
    · simp [c]
theorem lastI_mid {N : List (List Int)} {q : Int × Nat} {u : Int} : ∀ {ps qs : List (Int × Nat)}, u ∈ nd N q.1 → lastI N (ps ++ q :: qs) u = some ((lastI N qs u).getD q.2)
  | [], qs, h => by
    rw [List.nil_append, lastI]
    cases lastI N qs u <;> simp [h]
  | p :: ps, qs, h => by
    rw [List.cons_append, lastI, lastI_mid (ps := ps) h]
theorem lastI_none {N : List (List Int)} {u : Int} : ∀ {ws : List Int} {k : Nat}, lastI N (ws.zipIdx k) u = none ↔ ∀ v ∈ ws, u ∉ nd N v
  | [], k => by simp [lastI]
  | w :: ws, k => by
    rw [List.zipIdx_cons, lastI]
    have ih := lastI_none (N := N) (u := u) (ws := ws) (k := k + 1)
    cases h : lastI N (ws.zipIdx (k + 1)) u with
    | none =>
      have := ih.mp h
      by_cases c : u ∈ nd N w
      · simp [c]
      · simp [c]; exact this
    | some j =>
      simp
      intro _
      have : ¬ ∀ v ∈ ws, u ∉ nd N v := fun z => by rw [ih.mpr z] at h; cases h
      simpa using this
theorem lastI_ge {N : List (List Int)} {u : Int} {j : Nat} : ∀ {ws : List Int} {k : Nat}, lastI N (ws.zipIdx k) u = some j → k ≤ j
  | [], k, h => by simp [lastI] at h
  | w :: ws, k, h => by
    rw [List.zipIdx_cons, lastI] at h
    cases h2 : lastI N (ws.zipIdx (k + 1)) u with
    | none => rw [h2] at h; simp at h; omega
    | some j' =>
      rw [h2] at h
      have := lastI_ge h2
      simp at h; omega
theorem plan_in_ok {N : List (List Int)} {A O : List Int} {st : RSt} (hN : netOk N) (hO : ∀ w ∈ O, 0 ≤ w ∧ w < N.length) (hl : N.length ≤ 1000) (hl2 : O.length ≤ 1000) : d_plan_in [netD N, tI A, .lst false (isD O)] st = .ok (.lst true ((planR N A O).map mvD)) st := by
  suffices hs : Rb (d_plan_in [netD N, tI A, .lst false (isD O)] st) fun d st' => d = .lst true ((planR N A O).map mvD) ∧ st' = st by
    obtain ⟨d, st', e, rfl, rfl⟩ := Rb_iff.mp hs
    exact e
  rw [d_plan_in]; refine Rb.of ?_
  unfold g_plan_in
  simp
  have hdl : ∀ m : List (Int × Int), (keysA m).Nodup → (∀ z ∈ keysA m, 0 ≤ z ∧ z < N.length) → m.length < sizeLine := fun m h1 h2 => by
    have := nodup_len h1 h2
    rw [keys_len] at this
    rw [sizeLine_eq]; omega
  refine ob_for (fun pre ρ => ∃ m : List (Int × Int), ρ = ⟨[.sh (netD N), .sh (tI A), .sh (.lst false (isD O)), .ow (dI .int true m), .no, .no, .no, .no], st⟩ ∧ (keysA m).Nodup ∧ (∀ z ∈ keysA m, 0 ≤ z ∧ z < N.length) ∧ ∀ u, getA m u = (lastI N pre u).map Int.ofNat) ?_ ?_ ?_
  · exact ⟨[], rfl, by simp, by simp, fun u => rfl⟩
  · rintro pre ⟨w, i⟩ post _ hx ⟨m, rfl, h1, h2, h3⟩
    refine ⟨_, rfl, ?_⟩
    obtain ⟨O1, ws, e1, e2, e3, e4⟩ := zipIdx_split hx
    have hw := hO w (by rw [e1]; simp)
    simp [ix_net hw.1 hw.2]
    refine ob_forL (fun pre2 ρ => ∃ m : List (Int × Int), ρ = ⟨[.sh (netD N), .sh (tI A), .sh (.lst false (isD O)), .ow (dI .int true m), .sh (.int i), .sh (.int w), .no, .no], st⟩ ∧ (keysA m).Nodup ∧ (∀ z ∈ keysA m, 0 ≤ z ∧ z < N.length) ∧ ∀ u, getA m u = if u ∈ pre2 then some (i : Int) else (lastI N pre u).map Int.ofNat) ?_ ?_ ?_
    · exact ⟨m, rfl, h1, h2, fun u => by simp [h3]⟩
    · rintro pre2 y post2 _ hy ⟨m, rfl, h1, h2, h3⟩
      refine ⟨_, rfl, ?_⟩
      have hy1 := (nd_ok hN hw.1 hw.2).2 y (by rw [hy]; simp)
      simp
      rw [stk_int (v := (i : Int)) .int h1 (hdl m h1 h2)]
      simp
      refine ⟨putA m y i, ⟨rfl, rfl⟩, nodup_put h1, fun z hz => ?_, fun u => ?_⟩
      · rcases mem_put.mp hz with rfl | hz
        · omega
        · exact h2 z hz
      · rw [getA_put, h3]
        by_cases c : y = u
        · subst c; simp
        · have c' : ¬ u = y := fun z => c z.symm
          simp [c, c']
    · rintro _ ⟨m, rfl, h1, h2, h3⟩
      simp
      refine ⟨m, ⟨rfl, rfl⟩, h1, h2, fun u => ?_⟩
      rw [h3, lastI_append]
      split <;> rfl
  · rintro _ ⟨m, rfl, h1, h2, h3⟩
    simp
    refine ob_for (fun pre ρ => ∃ P, ρ = ⟨[.sh (netD N), .sh (tI A), .sh (.lst false (isD O)), .ow (dI .int true m), .no, .no, .no, .ow (.lst true (P.map mvD))], st⟩ ∧ P.length ≤ pre.length * 1001 ∧ ∀ O1 ws, O = O1 ++ ws → O1.length = pre.length → planR N A O = P ++ planR N A ws) ?_ ?_ ?_
    · exact ⟨[], rfl, by simp, fun O1 ws e h => by
        have : O1 = [] := List.length_eq_zero_iff.mp h
        subst this
        rw [e]; rfl⟩
    · rintro pre ⟨w, i⟩ post _ hx ⟨P, rfl, hP, hp⟩
      refine ⟨_, rfl, ?_⟩
      obtain ⟨O1, ws, e1, e2, e3, e4⟩ := zipIdx_split hx
      have hw := hO w (by rw [e1]; simp)
      have hpl : pre.length ≤ 1000 := by
        have := congrArg List.length hx
        simp at this
        omega
      have hnn := nd_ok hN hw.1 hw.2
      have hnl := sorted_len hnn.1 hnn.2
      simp
      rw [moApp_i (by simp [sizeLine_eq]; omega)]
      simp [ix_net hw.1 hw.2]
      rw [lc_fm (fun u => !decide (u ∈ A) && ws.all fun v => !decide (u ∈ nd N v)) (fun u => mvD (clr u))]
      · have hgl : (goneR N A w ws).length ≤ (nd N w).length := List.length_filter_le _ _
        rw [show (nd N w).filter (fun u => !decide (u ∈ A) && ws.all fun v => !decide (u ∈ nd N v)) = goneR N A w ws from rfl]
        simp
        rw [moExt_l (by simp) (by simp [sizeLine_eq]; omega)]
        simp
        refine ⟨P ++ (("do" : Str), w) :: (goneR N A w ws).map clr, by simp [Function.comp_def], by simp; omega, fun O2 ws2 e5 h5 => ?_⟩
        have e6 : O2 = O1 ++ [w] ∧ ws2 = ws := by
          refine List.append_inj (e5.symm.trans (by rw [e1]; simp)) ?_
          rw [h5]
          have := congrArg List.length e4
          simp at this
          simp; omega
        rw [hp O1 (w :: ws) e1 (by rw [e4]; simp), e6.2, planR]
        simp
      · intro u hu
        have hk := lastI_mid (ps := pre) (qs := post) (q := (w, i)) hu
        rw [← hx] at hk
        have hg : getA m u = some (((lastI N post u).getD i : Nat) : Int) := by rw [h3, hk]; rfl
        have hix := opIxA_d (f := D.int) (o := true) hg (by simp)
        simp [hix]
        have hc : ((lastI N post u).getD i = i) ↔ (ws.all fun v => !decide (u ∈ nd N v)) = true := by
          rw [e3]
          cases hq : lastI N (ws.zipIdx (i + 1)) u with
          | none =>
            have := lastI_none.mp hq
            simp
            exact this
          | some j =>
            have hj := lastI_ge hq
            have : ¬ ∀ v ∈ ws, u ∉ nd N v := fun z => by rw [lastI_none.mpr z] at hq; cases hq
            simp at this ⊢
            constructor
            · intro h; omega
            · intro h; obtain ⟨v, hv, hv2⟩ := this; exact absurd hv2 (h v hv)
        by_cases c : (lastI N post u).getD i = i
        · have c2 := hc.mp c
          have c3 : ∀ v ∈ ws, ¬ u ∈ nd N v := by simpa using c2
          by_cases ca : u ∈ A
          · rw [if_neg (fun z => z.1 ca)]
            simp [c, ca]
          · rw [if_pos ⟨ca, c3⟩]
            simp [c, ca, clr]
        · have c2 : (ws.all fun v => !decide (u ∈ nd N v)) = false := by
            cases h : (ws.all fun v => !decide (u ∈ nd N v))
            · rfl
            · exact absurd (hc.mpr h) c
          rw [if_neg (fun z => by
            have : (ws.all fun v => !decide (u ∈ nd N v)) = true := by simpa using z.2
            rw [this] at c2; cases c2)]
          have c3 : ¬ (((lastI N post u).getD i : Nat) : Int) = (i : Int) := by omega
          simp [c3]
    · rintro _ ⟨P, rfl, hP, hp⟩
      have := hp O [] (by simp) (by simp)
      simp [planR] at this
      simp [this]
theorem plain_ok {N : List (List Int)} {A : List Int} {st : RSt} (hN : netOk N) (hA : ∀ a ∈ A, 0 ≤ a ∧ a < N.length) (hl : N.length ≤ 1000) : d_plain_plan [netD N, tI A] st = .ok (.lst true ((planR N A (need N A)).map mvD)) st := by
  have hnn := need_needs hN hA
  have hnl := sorted_len hnn.1 hnn.2
  rw [d_plain_plan, fnRes_eq]
  unfold g_plain_plan
  have e1 := all_needed_ok (N := N) (A := A) (st := st) hN hA (by omega)
  have e2 := plan_in_ok (N := N) (A := A) (O := need N A) (st := st) hN hnn.2 hl (by omega)
  simp [e1, e2]
theorem law_plan_in_ok {N : List (List Int)} {A O : List Int} {st : RSt} (hN : netOk N) (g : GoodO N A O) (hl : N.length ≤ 1000) : d_law_plan_in [netD N, tI A, .lst false (isD O)] st = .ok (.lst true ((planR N A O).map mvD)) st := by
  suffices hs : Rb (d_law_plan_in [netD N, tI A, .lst false (isD O)] st) fun d st' => d = .lst true ((planR N A O).map mvD) ∧ st' = st by
    obtain ⟨d, st', e, rfl, rfl⟩ := Rb_iff.mp hs
    exact e
  have hOl : O.length ≤ N.length := by
    have := nodup_len g.nd g.rng
    omega
  rw [d_law_plan_in]; refine Rb.of ?_
  unfold g_law_plan_in
  simp
  have hdl : ∀ m : List (Int × Bool), (keysA m).Nodup → (∀ z ∈ keysA m, 0 ≤ z ∧ z < N.length) → m.length < sizeLine := fun m h1 h2 => by
    have := nodup_len h1 h2
    rw [keys_len] at this
    rw [sizeLine_eq]; omega
  refine ob_for (fun pre ρ => ∃ P T, ρ = ⟨[.sh (netD N), .sh (tI A), .sh (.lst false (isD O)), .ow (.lst true (P.map mvD)), .ow (.lst true (isD T)), .no, .no, .no, .no, .no, .no, .no], st⟩ ∧ P.length ≤ pre.length * 1001 ∧ ∀ O1 ws, O = O1 ++ ws → O1.length = pre.length → planR N A O = P ++ planR N A ws ∧ T = thF N A O1 ws) ?_ ?_ ?_
  · exact ⟨[], [], rfl, by simp, fun O1 ws e h => by
      have : O1 = [] := List.length_eq_zero_iff.mp h
      subst this
      rw [e]; exact ⟨rfl, rfl⟩⟩
  · rintro pre ⟨w, i⟩ post _ hx ⟨P, T, rfl, hP, hp⟩
    refine ⟨_, rfl, ?_⟩
    obtain ⟨O1, ws, e1, e2, e3, e4⟩ := zipIdx_split hx
    have hw := g.rng w (by rw [e1]; simp)
    have hO1 : O1.length = pre.length := by rw [e4]; simp
    have hOw := congrArg List.length e1
    simp at hOw
    obtain ⟨hp1, rfl⟩ := hp O1 (w :: ws) e1 hO1
    have htl : (thF N A O1 (w :: ws)).length ≤ O1.length := List.length_filter_le _ _
    have hnn := nd_ok hN hw.1 hw.2
    have hnl := sorted_len hnn.1 hnn.2
    simp
    rw [moApp_i (by simp [sizeLine_eq]; omega)]
    simp
    rw [moApp_i (by simp [sizeLine_eq]; omega)]
    simp
    rw [cutD_lo (by omega)]
    have hdr : List.drop ((i : Int) + 1).toNat (isD O) = isD ws := by
      rw [show ((i : Int) + 1).toNat = (O1 ++ [w]).length by simp; simp at e2; omega, e1, show O1 ++ w :: ws = O1 ++ [w] ++ ws by simp]
      simp only [isD, List.map_append]
      rw [List.drop_left' (by simp)]
    rw [hdr]
    simp
    refine ob_for (fun pre3 ρ => ∃ m : List (Int × Bool), ρ = ⟨[.sh (netD N), .sh (tI A), .sh (.lst false (isD O)), .ow (.lst true (P.map mvD ++ [mvD ("do", w)])), .ow (.lst true (isD (thF N A O1 (w :: ws)) ++ [.int w])), .sh (.int i), .sh (.int w), .ow (dI .bl true m), .no, .no, .no, .no], st⟩ ∧ (keysA m).Nodup ∧ (∀ z ∈ keysA m, 0 ≤ z ∧ z < N.length) ∧ ∀ u, u ∈ keysA m ↔ ∃ v ∈ pre3, u ∈ nd N v) ⟨[], rfl, by simp, by simp, by simp⟩ ?_ ?_
    · rintro pre3 v post3 _ hv ⟨m, rfl, h1, h2, h3⟩
      refine ⟨_, rfl, ?_⟩
      have hvr := g.rng v (by rw [e1, hv]; simp)
      simp [ix_net hvr.1 hvr.2]
      refine ob_forL (fun pre4 ρ => ∃ m : List (Int × Bool), ρ = ⟨[.sh (netD N), .sh (tI A), .sh (.lst false (isD O)), .ow (.lst true (P.map mvD ++ [mvD ("do", w)])), .ow (.lst true (isD (thF N A O1 (w :: ws)) ++ [.int w])), .sh (.int i), .sh (.int w), .ow (dI .bl true m), .sh (.int v), .no, .no, .no], st⟩ ∧ (keysA m).Nodup ∧ (∀ z ∈ keysA m, 0 ≤ z ∧ z < N.length) ∧ ∀ u, u ∈ keysA m ↔ ((∃ v ∈ pre3, u ∈ nd N v) ∨ u ∈ pre4)) ⟨m, rfl, h1, h2, by simpa using h3⟩ ?_ ?_
      · rintro pre4 y post4 _ hy ⟨m, rfl, h1, h2, h3⟩
        refine ⟨_, rfl, ?_⟩
        have hy1 := (nd_ok hN hvr.1 hvr.2).2 y (by rw [hy]; simp)
        simp
        rw [stk_int (v := true) .bl h1 (hdl m h1 h2)]
        simp
        refine ⟨putA m y true, ⟨rfl, rfl⟩, nodup_put h1, fun z hz => ?_, fun u => ?_⟩
        · rcases mem_put.mp hz with rfl | hz
          · omega
          · exact h2 z hz
        · rw [mem_put, h3]
          constructor
          · rintro (h | h | h)
            · exact .inr (.inr h)
            · exact .inl h
            · exact .inr (.inl h)
          · rintro (h | h | h)
            · exact .inr (.inl h)
            · exact .inr (.inr h)
            · exact .inl h
      · rintro _ ⟨m, rfl, h1, h2, h3⟩
        simp
        refine ⟨m, ⟨rfl, rfl⟩, h1, h2, fun u => ?_⟩
        rw [h3]
    · rintro _ ⟨m, rfl, h1, h2, h3⟩
      have hs : opSort [D.lst true (isD (thF N A O1 (w :: ws)) ++ [D.int w])] = some (.lst true (isD (sortI (thF N A O1 (w :: ws) ++ [w])))) := by
        rw [show isD (thF N A O1 (w :: ws)) ++ [D.int w] = (thF N A O1 (w :: ws) ++ [w]).map D.int by simp, opSort_i]
      have hk : ∀ u, (!decide (u ∈ keysA m) && !decide (u ∈ A)) = !keep N A ws u := fun u => by
        by_cases c : keep N A ws u = true
        · rw [c]
          rcases keep_iff.mp c with h | h
          · simp [h]
          · simp [(h3 u).mpr h]
        · have c1 : u ∉ A := fun z => c (keep_iff.mpr (.inl z))
          have c2 : u ∉ keysA m := fun z => c (keep_iff.mpr (.inr ((h3 u).mp z)))
          simp only [Bool.not_eq_true] at c
          simp [c, c1, c2]
      simp only [isD] at hs
      simp [hs]
      rw [lc_fm (fun u => !keep N A ws u) D.int]
      · rw [gone_eq hN g e1]
        have hgl : (goneR N A w ws).length ≤ (nd N w).length := List.length_filter_le _ _
        simp
        rw [lc_map (fun u => mvD (clr u)) (by intro u hu; simp [clr])]
        simp
        rw [moExt_l (by simp) (by simp [sizeLine_eq]; omega)]
        simp
        rw [lcoK_ow _ _ _ _ _ _ _ (by simp)]
        rw [show List.map D.int (thF N A O1 (w :: ws)) ++ [D.int w] = (thF N A O1 (w :: ws) ++ [w]).map D.int by simp]
        rw [lc_fm (fun u => !decide (u ∈ goneR N A w ws)) D.int]
        · have hT : (thF N A O1 (w :: ws) ++ [w]).filter (fun u => !decide (u ∈ goneR N A w ws)) = thF N A (O1 ++ [w]) ws := by
            rw [← th_next g e1]
            refine List.filter_congr fun u hu => ?_
            have := gone_eq hN g e1
            cases hq : keep N A ws u
            · have : u ∈ goneR N A w ws := by
                rw [← this, List.mem_filter, (sortI_perm _).mem_iff]
                exact ⟨hu, by simp [hq]⟩
              simp [this]
            · have : u ∉ goneR N A w ws := fun z => by have := (mem_gone.mp z).2; rw [hq] at this; cases this
              simp [this]
          rw [hT]
          simp
          refine ⟨P ++ (("do" : Str), w) :: (goneR N A w ws).map clr, thF N A (O1 ++ [w]) ws, ⟨by simp [Function.comp_def], rfl⟩, by simp; omega, fun O2 ws2 e5 h5 => ?_⟩
          have e6 : O2 = O1 ++ [w] ∧ ws2 = ws := by
            refine List.append_inj (e5.symm.trans (by rw [e1]; simp)) ?_
            rw [h5]; simp [hO1]
          rw [hp1, e6.1, e6.2, planR]
          exact ⟨by simp, rfl⟩
        · intro u hu
          by_cases c : u ∈ goneR N A w ws <;> simp [c]
      · intro u hu
        rw [← hk u]
        by_cases c1 : u ∈ keysA m <;> by_cases c2 : u ∈ A <;> simp [c1, c2]
  · rintro _ ⟨P, T, rfl, hP, hp⟩
    obtain ⟨this, _⟩ := hp O [] (by simp) (by simp)
    simp [planR] at this
    simp [this]
end Cm

/- part CmJ -/
namespace Cm
open PySem Fw L2
/-! ### levels -/
def gi (xs : List Int) (w : Int) : Int := xs.getD w.toNat 0
theorem atI_gi {xs : List Int} {w : Int} (h0 : 0 ≤ w) (h1 : w < xs.length) : atI xs w = some (gi xs w) := atI_getD 0 h0 h1
theorem gi_app {xs ys : List Int} {n : Int} (n0 : 0 ≤ n) (n1 : n < xs.length) : gi (xs ++ ys) n = gi xs n := by
  unfold gi
  rw [List.getD_eq_getElem?_getD, List.getD_eq_getElem?_getD, List.getElem?_append_left (by omega)]
theorem gi_last {xs : List Int} {y : Int} : gi (xs ++ [y]) xs.length = y := by
  unfold gi
  rw [List.getD_eq_getElem?_getD]
  simp
def lvsA : List Int → List (List Int) → List Int
  | acc, [] => acc
  | acc, x :: xs => lvsA (acc ++ [maxI ((x.map fun n => gi acc n + 1) ++ [0])]) xs
def lvs (N : List (List Int)) : List Int := lvsA [] N
def lv (N : List (List Int)) (w : Int) : Int := gi (lvs N) w
theorem lvsA_pre : ∀ {xs : List (List Int)} {acc : List Int}, ∃ r, lvsA acc xs = acc ++ r ∧ r.length = xs.length
  | [], acc => ⟨[], by simp [lvsA], rfl⟩
  | x :: xs, acc => by
    obtain ⟨r, h1, h2⟩ := lvsA_pre (xs := xs) (acc := acc ++ [maxI ((x.map fun n => gi acc n + 1) ++ [0])])
    exact ⟨_, by rw [lvsA, h1, List.append_assoc], by simp [h2]⟩
theorem lvs_len (N : List (List Int)) : (lvs N).length = N.length := by
  obtain ⟨r, h1, h2⟩ := lvsA_pre (xs := N) (acc := [])
  rw [lvs, h1]; simpa using h2
theorem lvsA_eq {N : List (List Int)} (hN : netOk N) : ∀ (xs pre : List (List Int)) (acc : List Int), N = pre ++ xs → acc.length = pre.length → (∀ w : Int, 0 ≤ w → w < pre.length → gi acc w = maxI (((nd N w).map fun n => gi acc n + 1) ++ [0])) →
    ∀ w : Int, 0 ≤ w → w < N.length → gi (lvsA acc xs) w = maxI (((nd N w).map fun n => gi (lvsA acc xs) n + 1) ++ [0])
  | [], pre, acc, e, _, h => by
    rw [List.append_nil] at e
    subst e
    exact h
  | x :: xs, pre, acc, e, hl, h => by
    rw [lvsA]
    refine lvsA_eq hN xs (pre ++ [x]) _ (by rw [e]; simp) (by simp [hl]) fun w w0 w1 => ?_
    have hx : nd N pre.length = x := by
      unfold nd
      rw [e, List.getD_eq_getElem?_getD]
      simp
    have get : ∀ n : Int, 0 ≤ n → n < pre.length → gi (acc ++ [maxI ((x.map fun n => gi acc n + 1) ++ [0])]) n = gi acc n := fun n n0 n1 => gi_app n0 (by omega)
    have low : ∀ w : Int, 0 ≤ w → w ≤ pre.length → (nd N w).map (fun n => gi (acc ++ [maxI ((x.map fun n => gi acc n + 1) ++ [0])]) n + 1) = (nd N w).map fun n => gi acc n + 1 := fun w w0 w1 => by
      refine List.map_congr_left fun n hn => ?_
      have := (nd_ok hN w0 (by rw [e]; simp; omega)).2 n hn
      rw [get n this.1 (by omega)]
    simp at w1
    by_cases c : w < pre.length
    · rw [get w w0 c, low w w0 (by omega)]
      exact h w w0 c
    · have ew : w = pre.length := by omega
      subst ew
      rw [low _ (by omega) (by omega), hx, ← hl, gi_last]
theorem lv_eq {N : List (List Int)} (hN : netOk N) {w : Int} (h0 : 0 ≤ w) (h1 : w < N.length) : lv N w = maxI (((nd N w).map fun n => lv N n + 1) ++ [0]) := lvsA_eq hN N [] [] rfl rfl (fun w w0 w1 => by simp at w1; omega) w h0 h1
theorem levels_ok {N : List (List Int)} {st : RSt} (hN : netOk N) (hl : N.length ≤ 1000000) : d_levels [netD N] st = .ok (.lst true (isD (lvs N))) st := by
  rw [d_levels, fnRes_eq]
  unfold g_levels
  simp
  obtain ⟨ρ', e, hI⟩ := forL_inv (t := tgN 2) (body := sMe1 moApp 1 (evOp [(.val (evOp [(.val (evLc (itSeq (evVar 2)) (tgN 3) evYes (evOp [(.val (evOp [(.var 1), (.var 3)] opIxA)), (.val (evC (.int 1)))] opAdd) [3])), (.val (evLst [(evC (.int 0))]))] opAdd))] opMaxL)) (fg := [2]) (toD := tI)
    (fun (pre : List (List Int)) (ρ : En) => ∃ acc, ρ = ⟨[.sh (netD N), .ow (.lst true (isD acc)), .no, .no], st⟩ ∧ acc.length = pre.length ∧ ∀ post, N = pre ++ post → lvs N = lvsA acc post) N [] ⟨[.sh (netD N), .ow (.lst true (isD [])), .no, .no], st⟩ ⟨[], rfl, rfl, fun post e => by rw [e]; rfl⟩ (by
    rintro pre x post _ hx ⟨acc, rfl, ha, h⟩
    refine ⟨_, rfl, ?_⟩
    rw [List.nil_append] at hx
    have hlen := congrArg List.length hx
    simp at hlen
    have hxn : needsOk pre.length x := hN pre.length x (by rw [hx]; simp)
    simp
    rw [lc_map (fun n => D.int (gi acc n + 1))]
    · have hxl := sorted_len hxn.1 hxn.2
      simp
      rw [show (x.map fun n => D.int (gi acc n + 1)) = isD (x.map fun n => gi acc n + 1) by simp [Function.comp_def]]
      rw [opAdd_l (by simp) (by simp) (by simp [sizeLine_eq]; omega)]
      rw [show isD (x.map fun n => gi acc n + 1) ++ [D.int 0] = ((x.map fun n => gi acc n + 1) ++ [0]).map D.int by simp]
      simp only [odK_some, opsK1_ok, evOps_nil, opsK2_ok, opK_ok]
      rw [opMaxL_i true (by simp)]
      simp
      rw [moApp_i (by simp [sizeLine_eq]; omega)]
      simp
      refine ⟨acc ++ [maxI ((x.map fun n => gi acc n + 1) ++ [0])], by simp, by simp [ha], fun post' e' => ?_⟩
      have e3 : post' = post := by
        have h4 := e'.symm.trans hx
        simpa using h4
      rw [h _ hx, e3, lvsA]
    · intro n hn
      have := hxn.2 n hn
      simp
      rw [atI_gi (by omega) (by omega)]
      simp)
  obtain ⟨acc, rfl, ha, h⟩ := hI
  have := h [] (by simp)
  rw [lvsA] at this
  simp at e
  rw [e, this]
  simp
/-! ### dict([(k, x), ..]) -/
def mergeA {α : Type} (a m : List (Int × α)) : List (Int × α) := m.foldl (fun a p => putA a p.1 p.2) a
theorem mergeD_A {α : Type} (f : α → D) : ∀ (m a : List (Int × α)), mergeD (m.map fun p => ((Sum.inl p.1 : Key), f p.2)) (a.map fun p => Sum.inl p.1) (a.map fun p => f p.2) = ((mergeA a m).map fun p => Sum.inl p.1, (mergeA a m).map fun p => f p.2)
  | [], a => rfl
  | p :: m, a => by
    rw [List.map_cons, mergeD, putKs_map a p.1 p.2, putXs_map, mergeD_A f m]
    rfl
theorem pairsD_A {α : Type} (f : α → D) : ∀ m : List (Int × α), pairsD (m.map fun p => .tup [.int p.1, f p.2]) = some (m.map fun p => ((Sum.inl p.1 : Key), f p.2))
  | [] => rfl
  | p :: m => by simp [pairsD, pairsD_A f m]
theorem opDict_pairs {α : Type} {f : α → D} (hs : ∀ x, shr (f x) = true) {o : Bool} {m : List (Int × α)} : opDict [.lst o (m.map fun p => .tup [.int p.1, f p.2])] = some (dI f true (mergeA [] m)) := by
  show (if shrL (m.map fun p => D.tup [.int p.1, f p.2]) = true then _ else _) = _
  rw [if_pos (shrL_map' (by simp [hs])), pairsD_A]
  have := mergeD_A f m []
  simp only [List.map_nil] at this
  simp [this]
theorem mem_merge {α : Type} : ∀ {m a : List (Int × α)} {z : Int}, z ∈ keysA (mergeA a m) ↔ z ∈ keysA a ∨ z ∈ keysA m
  | [], a, z => by simp [mergeA]
  | (q, x) :: m, a, z => by
    show z ∈ keysA (mergeA (putA a q x) m) ↔ _
    rw [mem_merge, mem_put, keysA_cons, List.mem_cons]
    constructor
    · rintro ((h | h) | h)
      · exact .inr (.inl h)
      · exact .inl h
      · exact .inr (.inr h)
    · rintro (h | h | h)
      · exact .inl (.inr h)
      · exact .inl (.inl h)
      · exact .inr h
theorem merge_nodup {α : Type} : ∀ {m a : List (Int × α)}, (keysA a).Nodup → (keysA (mergeA a m)).Nodup
  | [], a, h => h
  | p :: m, a, h => merge_nodup (a := putA a p.1 p.2) (nodup_put h)
end Cm

/- part CmO -/
namespace Cm
open PySem Fw L2
/-! ### stands as bits, and those that are come to -/
def clrB (s w : Nat) : Nat := s - 2 ^ w * (s / 2 ^ w &&& 1)
def mor (s w : Nat) : Nat := s ||| 2 ^ w
def cnt (n s : Nat) : Nat := ((List.range n).map fun w => s / 2 ^ w &&& 1).sum
def mskL (xs : List Int) : Nat := (xs.map fun x => 2 ^ x.toNat).sum
def msk (N : List (List Int)) (w : Nat) : Nat := mskL (N.getD w [])
inductive Rch (N : List (List Int)) (rooms : Int) : Nat → Prop
  | z : Rch N rooms 0
  | c {s w : Nat} : Rch N rooms s → w < N.length → Rch N rooms (clrB s w)
  | d {s w : Nat} : Rch N rooms s → w < N.length → (cnt N.length s : Int) < rooms → s &&& msk N w = msk N w → Rch N rooms (mor s w)
theorem clrB_le (s w : Nat) : clrB s w ≤ s := Nat.sub_le _ _
theorem clrB_mul (s w : Nat) : 2 ^ w * (s / 2 ^ w &&& 1) ≤ s := by
  rw [Nat.and_one_is_mod]
  exact Nat.le_trans (Nat.mul_le_mul_left _ (Nat.mod_le _ _)) (Nat.mul_div_le _ _)
theorem mor_lt {n s w : Nat} (h : s < 2 ^ n) (hw : w < n) : mor s w < 2 ^ n := Nat.or_lt_two_pow h (Nat.pow_lt_pow_right (by decide) hw)
theorem Rch.lt {N : List (List Int)} {rooms : Int} {s : Nat} (h : Rch N rooms s) : s < 2 ^ N.length := by
  induction h with
  | z => exact Nat.two_pow_pos _
  | c h hw ih => exact Nat.lt_of_le_of_lt (clrB_le _ _) ih
  | d h hw _ _ ih => exact mor_lt ih hw
/-- a closed set of stands, as bits of a number -/
def closed (N : List (List Int)) (rooms : Nat) (goal : Nat) (S : Nat) : Bool :=
  S.testBit 0 && (List.range (2 ^ N.length)).all fun s => !S.testBit s || (s &&& goal != goal && (List.range N.length).all fun w => S.testBit (clrB s w) && (decide (rooms ≤ cnt N.length s) || s &&& msk N w != msk N w || S.testBit (mor s w)))
theorem Rch.closed {N : List (List Int)} {rooms goal S : Nat} (h : closed N rooms goal S = true) {r : Int} (hr : r ≤ rooms) {s : Nat} (k : Rch N r s) : S.testBit s = true ∧ s &&& goal ≠ goal := by
  unfold Cm.closed at h
  simp only [Bool.and_eq_true, List.all_eq_true, List.mem_range, Bool.or_eq_true, Bool.not_eq_true', bne_iff_ne, decide_eq_true_eq] at h
  obtain ⟨h0, h1⟩ := h
  have key : S.testBit s = true := by
    induction k with
    | z => exact h0
    | c k hw ih =>
      rcases h1 _ k.lt with z | z
      · rw [ih] at z; cases z
      · exact (z.2 _ hw).1
    | d k hw hc hm ih =>
      rcases h1 _ k.lt with z | z
      · rw [ih] at z; cases z
      · rcases (z.2 _ hw).2 with (z | z) | z
        · omega
        · exact absurd hm z
        · exact z
  refine ⟨key, ?_⟩
  rcases h1 _ k.lt with z | z
  · rw [key] at z; cases z
  · exact z.1
/-- moves made: (true, w) does, (false, w) clears -/
def runB (N : List (List Int)) (rooms : Nat) : List (Bool × Nat) → Nat → Option Nat
  | [], s => some s
  | (true, w) :: ms, s => if w < N.length ∧ cnt N.length s < rooms ∧ s &&& msk N w = msk N w then runB N rooms ms (mor s w) else none
  | (false, w) :: ms, s => if w < N.length then runB N rooms ms (clrB s w) else none
theorem runB_rch {N : List (List Int)} {rooms : Nat} : ∀ (ms : List (Bool × Nat)) {s e : Nat}, Rch N rooms s → runB N rooms ms s = some e → Rch N rooms e
  | [], s, e, h, k => by cases k; exact h
  | (true, w) :: ms, s, e, h, k => by
    unfold runB at k
    split at k
    · rename_i c
      exact runB_rch ms (.d h c.1 (by omega) c.2.2) k
    · cases k
  | (false, w) :: ms, s, e, h, k => by
    unfold runB at k
    split at k
    · rename_i c
      exact runB_rch ms (.c h c) k
    · cases k
/-- all stands that are come to from some, as bits of a number (nothing is asked of it) -/
def grow (N : List (List Int)) (rooms : Nat) : Nat → List Nat → Nat → Nat
  | 0, _, S => S
  | _, [], S => S
  | k + 1, s :: ss, S =>
    let ms := ((List.range N.length).map (clrB s)) ++ (if cnt N.length s < rooms then ((List.range N.length).filter fun w => s &&& msk N w == msk N w).map (mor s) else [])
    let p := ms.foldl (fun (p : List Nat × Nat) t => if p.2.testBit t then p else (t :: p.1, p.2 ||| 2 ^ t)) (ss, S)
    grow N rooms k p.1 p.2
/-- what is asked of a net: its works numbered, each but the last one needed by one, and just so many rooms -/
def small (N : List (List Int)) (due : Nat) (ms : List (Bool × Nat)) (S : Nat) : Bool :=
  decide (0 < N.length) && decide (N.length ≤ 10) && decide (1 ≤ due) && decide (due ≤ 10) &&
  (List.range N.length).all (fun i => (rg 0 i).filter (fun x => (N.getD i []).contains x) == N.getD i []) &&
  (List.range (N.length - 1)).all (fun w => N.any fun xs => xs.contains (w : Int)) &&
  ((runB N due ms 0).any fun e => e &&& 2 ^ (N.length - 1) == 2 ^ (N.length - 1)) &&
  closed N (due - 1) (2 ^ (N.length - 1)) S
structure Small (N : List (List Int)) (due : Nat) : Prop where
  p0 : 0 < N.length
  p1 : N.length ≤ 10
  d0 : 1 ≤ due
  d1 : due ≤ 10
  ok : netOk N
  us : ∀ w : Nat, w < N.length - 1 → ∃ xs ∈ N, (w : Int) ∈ xs
  way : ∃ e, Rch N due e ∧ e &&& 2 ^ (N.length - 1) = 2 ^ (N.length - 1)
  no : ∀ (r : Int) e, r < due → Rch N r e → e &&& 2 ^ (N.length - 1) ≠ 2 ^ (N.length - 1)
theorem small_of {N : List (List Int)} {due : Nat} {ms : List (Bool × Nat)} {S : Nat} (h : small N due ms S = true) : Small N due := by
  unfold small at h
  simp only [Bool.and_eq_true, decide_eq_true_eq, List.all_eq_true, List.mem_range, beq_iff_eq, List.any_eq_true, List.contains_iff_mem] at h
  obtain ⟨⟨⟨⟨⟨⟨⟨h1, h2⟩, h3⟩, h4⟩, h5⟩, h6⟩, h7⟩, h8⟩ := h
  refine ⟨h1, h2, h3, h4, ?_, h6, ?_, fun r e hr k => (k.closed h8 (by omega)).2⟩
  · intro i xs e
    have hi := (List.getElem?_eq_some_iff.mp e).1
    have e2 := h5 i hi
    have e3 : N.getD i [] = xs := by rw [List.getD_eq_getElem?_getD, e]; rfl
    rw [e3] at e2
    rw [← e2]
    exact ⟨(rg_sorted 0 i).sublist List.filter_sublist, fun x hx => by
      have := (List.mem_filter.mp hx).1
      rw [mem_rg] at this
      exact this⟩
  · cases e : runB N due ms 0 with
    | none => rw [e] at h7; simp at h7
    | some s =>
      rw [e] at h7
      simp at h7
      exact ⟨s, runB_rch ms .z e, h7⟩
theorem Small.und {N : List (List Int)} {due : Nat} (h : Small N due) : ∀ w : Int, 0 ≤ w → w < N.length → Und N [(N.length : Int) - 1] w := by
  have key : ∀ (k w : Nat), w < N.length → N.length - w ≤ k → Und N [(N.length : Int) - 1] (w : Int) := by
    intro k
    induction k with
    | zero => intro w h1 h2; omega
    | succ k ih =>
      intro w h1 h2
      by_cases c : w = N.length - 1
      · exact .ask (by rw [c]; simp; have := h.p0; omega)
      · obtain ⟨xs, hx, hm⟩ := h.us w (by omega)
        obtain ⟨i, hi, rfl⟩ := List.mem_iff_getElem.mp hx
        have hb := (h.ok i _ (List.getElem?_eq_getElem hi)).2 _ hm
        refine .need (u := (i : Int)) (ih i hi (by omega)) ?_
        show _ ∈ nd N i
        rw [nd]
        rw [List.getD_eq_getElem?_getD, show ((i : Int)).toNat = i by omega, List.getElem?_eq_getElem hi]
        exact hm
  intro w h0 h1
  have := key N.length w.toNat (by omega) (by omega)
  rwa [show ((w.toNat : Nat) : Int) = w by omega] at this
/-! ### rows, squares, steps -/
def rowN (n b : Int) : List (List Int) := (rg 0 n).map fun w => rg (if 0 < w - b then w - b else 0) w
def sqN (n m : Int) : List (List Int) := (rg 0 (n * m)).map fun w => (if 0 < w / m then [(w / m - 1) * m + w % m] else []) ++ (if 0 < w % m then [w / m * m + w % m - 1] else [])
def begI (n : Int) : Nat → Int
  | 0 => 0
  | r + 1 => begI n r + n - ((r + 1 : Nat) : Int) + 1
def stpN (n : Int) : List (List Int) := List.replicate n.toNat [] ++ (List.range (n.toNat - 1)).flatMap fun r => (rg 0 (n - ((r + 1 : Nat) : Int))).map fun k => [begI n r + k, begI n r + k + 1]
def rowP (n b : Nat) : List (Bool × Nat) := (List.range n).flatMap fun w => (true, w) :: (if b ≤ w then [(false, w - b)] else [])
def sqP (n m : Nat) : List (Bool × Nat) := if m ≤ n then
    (List.range n).flatMap fun i => (List.range m).flatMap fun j => (true, i * m + j) :: (if 0 < i then [(false, (i - 1) * m + j)] else [])
  else (List.range m).flatMap fun j => (List.range n).flatMap fun i => (true, i * m + j) :: (if 0 < j then [(false, i * m + (j - 1))] else [])
def stP (n : Nat) : List (Bool × Nat) := ((List.range n).map fun w => (true, w)) ++ (List.range (n - 1)).flatMap fun r => ((List.range (n - 1 - r)).flatMap fun k => [(true, (begI n (r + 1)).toNat + k), (false, (begI n r).toNat + k)]) ++ [(false, (begI n (r + 1)).toNat - 1)]
theorem rows_small : ((List.range 9).all fun n => (List.range 9).all fun b => small (rowN (n + 1 : Nat) (b + 1 : Nat)) (min (n + 1) (b + 2)) (rowP (n + 1) (b + 1)) (2 ^ 2 ^ (min (n + 1) (b + 2) - 1) - 1)) = true := by decide +kernel
def hws : List (Nat × Nat) := [(1, 7), (2, 2), (2, 3), (2, 4), (2, 5), (3, 3), (3, 2), (5, 2), (6, 1), (4, 2)]
def sqR (n m : Nat) : Nat := if n * m = 1 then 1 else if n = 1 ∨ m = 1 then 2 else min n m + 1
theorem sq_small : (hws.all fun p => small (sqN p.1 p.2) (sqR p.1 p.2) (sqP p.1 p.2) (grow (sqN p.1 p.2) (sqR p.1 p.2 - 1) 1024 [0] 1)) = true := by decide +kernel
def stR (n : Nat) : Nat := if n = 1 then 1 else n + 1
theorem st_small : ((List.range 4).all fun n => small (stpN (n + 1 : Nat)) (stR (n + 1)) (stP (n + 1)) (grow (stpN (n + 1 : Nat)) (stR (n + 1) - 1) 1024 [0] 1)) = true := by decide +kernel
end Cm

/- part K36M -/
namespace K36
open PySem Fw L2 Cm
/-! ### how many paths -/
def mx1 (s : Int) : Int := if 1 < s then s else 1
def cnA : List Int → List (List Int) → List Int
  | acc, [] => acc
  | acc, x :: xs => cnA (acc ++ [mx1 (x.map fun n => gi acc n).sum]) xs
def cns (N : List (List Int)) : List Int := cnA [] N
def cn (N : List (List Int)) (w : Int) : Int := gi (cns N) w
theorem cnA_pre : ∀ {xs : List (List Int)} {acc : List Int}, ∃ r, cnA acc xs = acc ++ r ∧ r.length = xs.length
  | [], acc => ⟨[], by simp [cnA], rfl⟩
  | x :: xs, acc => by
    obtain ⟨r, h1, h2⟩ := cnA_pre (xs := xs) (acc := acc ++ [mx1 (x.map fun n => gi acc n).sum])
    exact ⟨_, by rw [cnA, h1, List.append_assoc], by simp [h2]⟩
theorem cns_len (N : List (List Int)) : (cns N).length = N.length := by
  obtain ⟨r, h1, h2⟩ := cnA_pre (xs := N) (acc := [])
  rw [cns, h1]; simpa using h2
theorem cnA_eq {N : List (List Int)} (hN : netOk N) : ∀ (xs pre : List (List Int)) (acc : List Int), N = pre ++ xs → acc.length = pre.length → (∀ w : Int, 0 ≤ w → w < pre.length → gi acc w = mx1 ((nd N w).map fun n => gi acc n).sum) →
    ∀ w : Int, 0 ≤ w → w < N.length → gi (cnA acc xs) w = mx1 ((nd N w).map fun n => gi (cnA acc xs) n).sum
  | [], pre, acc, e, _, h => by
    rw [List.append_nil] at e
    subst e
    exact h
  | x :: xs, pre, acc, e, hl, h => by
    rw [cnA]
    refine cnA_eq hN xs (pre ++ [x]) _ (by rw [e]; simp) (by simp [hl]) fun w w0 w1 => ?_
    have hx : nd N pre.length = x := by
      unfold nd
      rw [e, List.getD_eq_getElem?_getD]
      simp
    have get : ∀ n : Int, 0 ≤ n → n < pre.length → gi (acc ++ [mx1 (x.map fun n => gi acc n).sum]) n = gi acc n := fun n n0 n1 => gi_app n0 (by omega)
    have low : ∀ w : Int, 0 ≤ w → w ≤ pre.length → (nd N w).map (fun n => gi (acc ++ [mx1 (x.map fun n => gi acc n).sum]) n) = (nd N w).map fun n => gi acc n := fun w w0 w1 => by
      refine List.map_congr_left fun n hn => ?_
      have := (nd_ok hN w0 (by rw [e]; simp; omega)).2 n hn
      rw [get n this.1 (by omega)]
    simp at w1
    by_cases c : w < pre.length
    · rw [get w w0 c, low w w0 (by omega)]
      exact h w w0 c
    · have ew : w = pre.length := by omega
      subst ew
      rw [low _ (by omega) (by omega), hx, ← hl, gi_last]
theorem cn_eq {N : List (List Int)} (hN : netOk N) {w : Int} (h0 : 0 ≤ w) (h1 : w < N.length) : cn N w = mx1 ((nd N w).map (cn N)).sum := cnA_eq hN N [] [] rfl rfl (fun w w0 w1 => by simp at w1; omega) w h0 h1
theorem path_count_ok {N : List (List Int)} {w : Int} {st : RSt} (hN : netOk N) (hl : N.length ≤ 1000000) (h0 : 0 ≤ w) (h1 : w < N.length) : d_law_path_count [netD N, .int w] st = .ok (.int (cn N w)) st := by
  rw [d_law_path_count, fnRes_eq]
  unfold g_law_path_count
  simp
  obtain ⟨ρ', e, hI⟩ := forL_inv (t := tgN 3) (body := sMe1 moApp 2 (evOp [(.val (evC (.int 1))), (.val (evOp [(.val (evLc (itSeq (evVar 3)) (tgN 4) evYes (evOp [(.var 2), (.var 4)] opIxA) [4]))] opSum))] opMax2)) (fg := [3]) (toD := tI)
    (fun (pre : List (List Int)) (ρ : En) => ∃ acc, ρ = ⟨[.sh (netD N), .sh (.int w), .ow (.lst true (isD acc)), .no, .no], st⟩ ∧ acc.length = pre.length ∧ ∀ post, N = pre ++ post → cns N = cnA acc post) N [] ⟨[.sh (netD N), .sh (.int w), .ow (.lst true (isD [])), .no, .no], st⟩ ⟨[], rfl, rfl, fun post e => by rw [e]; rfl⟩ (by
    rintro pre x post _ hx ⟨acc, rfl, ha, h⟩
    refine ⟨_, rfl, ?_⟩
    rw [List.nil_append] at hx
    have hlen := congrArg List.length hx
    simp at hlen
    have hxn : needsOk pre.length x := hN pre.length x (by rw [hx]; simp)
    simp
    rw [lc_map (fun n => D.int (gi acc n))]
    · have hxl := sorted_len hxn.1 hxn.2
      simp
      rw [show (x.map fun n => D.int (gi acc n)) = isD (x.map fun n => gi acc n) by simp [Function.comp_def]]
      have hs := opSum_i true (x.map fun n => gi acc n)
      simp only [isD] at hs ⊢
      rw [hs]
      simp
      rw [moApp_i (by simp [sizeLine_eq]; omega)]
      simp
      refine ⟨acc ++ [mx1 (x.map fun n => gi acc n).sum], by simp [mx1], by simp [ha], fun post' e' => ?_⟩
      have e3 : post' = post := by
        have h4 := e'.symm.trans hx
        simpa using h4
      rw [h _ hx, e3, cnA]
    · intro n hn
      have := hxn.2 n hn
      simp
      rw [atI_gi (by omega) (by omega)]
      simp)
  obtain ⟨acc, rfl, ha, h⟩ := hI
  have := h [] (by simp)
  rw [cnA] at this
  subst this
  simp at e
  rw [e]
  simp at ha
  simp
  rw [atI_gi h0 (by rw [ha]; exact h1)]
  simp [cn]
theorem many_paths_ok {N : List (List Int)} {w : Int} {st : RSt} (hN : netOk N) (hl : N.length ≤ 100000) (h0 : 0 ≤ w) (h1 : w < N.length) : d_many_paths [netD N, .int w] st = .ok (.int (cn N w)) st := by
  suffices hs : Rb (d_many_paths [netD N, .int w] st) fun d st' => d = .int (cn N w) ∧ st' = st by
    obtain ⟨d, st', e, rfl, rfl⟩ := Rb_iff.mp hs
    exact e
  rw [d_many_paths]; refine Rb.of ?_
  unfold g_many_paths
  have hA : ∀ a ∈ [w], 0 ≤ a ∧ a < (N.length : Int) := fun a ha => by simp at ha; subst ha; exact ⟨h0, h1⟩
  have e1 := all_needed_ok (N := N) (A := [w]) (st := st) hN hA (by omega)
  have hG := need_good hN hA
  have hGw := need_asked hN hA w (by simp)
  have hGl := sorted_len (need_needs hN hA).1 (need_needs hN hA).2
  generalize need N [w] = G at e1 hG hGw hGl
  simp only [tI, isD, List.map_cons, List.map_nil] at e1
  simp [e1]
  refine ob_for (fun pre ρ => ∃ m : List (Int × Int), ρ = ⟨[.sh (netD N), .sh (.int w), .ow (dI .int true m), .no, .no], st⟩ ∧ keysA m = pre ∧ ∀ u ∈ pre, getA m u = some (cn N u)) ⟨[], rfl, rfl, by simp⟩ ?_ ?_
  · rintro pre x post _ hx ⟨m, rfl, hk, hm⟩
    refine ⟨_, rfl, ?_⟩
    have hlen := congrArg List.length hx
    simp at hlen
    have hxr := hG.rng x (by rw [hx]; simp)
    have hb := (hG.bef _ _ _ hx).1
    have hnd := hG.nd
    rw [hx, List.nodup_append] at hnd
    have hxp : x ∉ pre := fun z => hnd.2.2 x z x List.mem_cons_self rfl
    have hml : m.length = pre.length := by rw [← hk, keys_len]
    simp [ix_net hxr.1 hxr.2]
    rw [lc_map (fun n => D.int (cn N n))]
    · rw [show ((nd N x).map fun n => D.int (cn N n)) = isD ((nd N x).map (cn N)) by simp [Function.comp_def]]
      have hs := opSum_i true ((nd N x).map (cn N))
      simp only [isD] at ⊢
      simp at hs
      have hcx : (if 1 < ((nd N x).map (cn N)).sum then ((nd N x).map (cn N)).sum else 1) = cn N x := (cn_eq hN hxr.1 hxr.2).symm
      simp [hs, hcx]
      rw [stk_int (v := cn N x) D.int (by rw [hk]; exact hnd.1) (by rw [sizeLine_eq]; omega)]
      simp
      refine ⟨putA m x (cn N x), ⟨rfl, rfl⟩, by rw [keysA_put, hk, if_neg hxp], fun u hu => ?_⟩
      rw [getA_put]
      by_cases c : x = u
      · rw [if_pos c, c]
      · rw [if_neg c]
        rcases hu with hu | hu
        · exact hm u hu
        · exact absurd hu.symm c
    · intro n hn
      have hnp := hb n hn
      simp
      rw [opIxA_d (hm n hnp) rfl]
      simp
  · rintro _ ⟨m, rfl, hk, hm⟩
    simp
    rw [opIxA_d (hm w hGw) rfl]
    simp
/-! ### the paths themselves -/
def lvF (N : List (List Int)) : Nat → List Int → List (List Int)
  | 0, _ => []
  | _ + 1, [] => []
  | n + 1, u :: q => if nd N u = [] then [u :: q] else (nd N u).reverse.flatMap fun v => lvF N n (v :: u :: q)
def ndF (N : List (List Int)) : Nat → Int → Nat
  | 0, _ => 0
  | n + 1, u => 1 + ((nd N u).map (ndF N n)).sum
theorem lvF_st {N : List (List Int)} (hN : netOk N) : ∀ {n m : Nat} {u : Int} {q : List Int}, 0 ≤ u → u < N.length → u < n → u < m → lvF N n (u :: q) = lvF N m (u :: q)
  | 0, m, u, q, h0, h1, h2, h3 => by omega
  | n + 1, 0, u, q, h0, h1, h2, h3 => by omega
  | n + 1, m + 1, u, q, h0, h1, h2, h3 => by
    rw [lvF, lvF]
    split
    · rfl
    · have key : ∀ xs : List Int, (∀ v ∈ xs, 0 ≤ v ∧ v < u) → (xs.flatMap fun v => lvF N n (v :: u :: q)) = xs.flatMap fun v => lvF N m (v :: u :: q) := fun xs => by
        induction xs with
        | nil => intro _; rfl
        | cons v xs ih =>
          intro h
          have hv := h v List.mem_cons_self
          rw [List.flatMap_cons, List.flatMap_cons, ih fun z hz => h z (List.mem_cons_of_mem _ hz), lvF_st hN (n := n) (m := m) hv.1 (by omega) (by omega) (by omega)]
      exact key _ fun v hv => (nd_ok hN h0 h1).2 v (List.mem_reverse.mp hv)
theorem ndF_st {N : List (List Int)} (hN : netOk N) : ∀ {n m : Nat} {u : Int}, 0 ≤ u → u < N.length → u < n → u < m → ndF N n u = ndF N m u
  | 0, m, u, h0, h1, h2, h3 => by omega
  | n + 1, 0, u, h0, h1, h2, h3 => by omega
  | n + 1, m + 1, u, h0, h1, h2, h3 => by
    rw [ndF, ndF]
    congr 2
    refine List.map_congr_left fun v hv => ?_
    have := (nd_ok hN h0 h1).2 v hv
    exact ndF_st hN (by omega) (by omega) (by omega) (by omega)
theorem mx1_ge (s : Int) : s ≤ mx1 s ∧ 1 ≤ mx1 s := by unfold mx1; split <;> omega
theorem sum_le {f g : Int → Int} : ∀ {xs : List Int}, (∀ x ∈ xs, f x ≤ g x) → (xs.map f).sum ≤ (xs.map g).sum
  | [], _ => by simp
  | x :: xs, h => by
    have := h x List.mem_cons_self
    have := sum_le (f := f) (g := g) (xs := xs) fun y hy => h y (List.mem_cons_of_mem _ hy)
    simp only [List.map_cons, List.sum_cons]
    omega
theorem sum_mul {f : Int → Int} {c : Int} : ∀ {xs : List Int}, (xs.map fun x => f x * c).sum = (xs.map f).sum * c
  | [] => by simp
  | x :: xs => by
    simp only [List.map_cons, List.sum_cons, sum_mul (f := f) (c := c) (xs := xs), Int.add_mul]
theorem cn_pos {N : List (List Int)} (hN : netOk N) {w : Int} (h0 : 0 ≤ w) (h1 : w < N.length) : 1 ≤ cn N w := by rw [cn_eq hN h0 h1]; exact (mx1_ge _).2
theorem sum_cast {f : Int → Nat} : ∀ {xs : List Int}, (((xs.map f).sum : Nat) : Int) = (xs.map fun x => (f x : Int)).sum
  | [] => by simp
  | x :: xs => by simp [sum_cast (f := f) (xs := xs)]
theorem ndF_le {N : List (List Int)} (hN : netOk N) : ∀ {n : Nat} {u : Int}, 0 ≤ u → u < N.length → u < n → (ndF N n u : Int) ≤ cn N u * (u + 1)
  | 0, u, h0, h1, h2 => by omega
  | n + 1, u, h0, h1, h2 => by
    rw [ndF]
    have hnd := (nd_ok hN h0 h1).2
    have e := cn_eq hN h0 h1
    have m := mx1_ge ((nd N u).map (cn N)).sum
    rw [← e] at m
    have s1 : ((((nd N u).map (ndF N n)).sum : Nat) : Int) ≤ ((nd N u).map (cn N)).sum * u := by
      rw [sum_cast, ← sum_mul]
      refine sum_le fun v hv => ?_
      have hv2 := hnd v hv
      have i := ndF_le hN (n := n) (u := v) hv2.1 (by omega) (by omega)
      have c := cn_pos hN (w := v) hv2.1 (by omega)
      exact Int.le_trans i (Int.mul_le_mul_of_nonneg_left (by omega) (by omega))
    have s2 : ((nd N u).map (cn N)).sum * u ≤ cn N u * u := Int.mul_le_mul_of_nonneg_right m.1 h0
    rw [Int.mul_add, Int.mul_one]
    push_cast
    omega
theorem sum_app : ∀ {xs ys : List Int}, (xs ++ ys).sum = xs.sum + ys.sum
  | [], ys => by simp
  | x :: xs, ys => by rw [List.cons_append, List.sum_cons, List.sum_cons, sum_app]; omega
theorem sum_rev : ∀ xs : List Int, xs.reverse.sum = xs.sum
  | [] => rfl
  | x :: xs => by rw [List.reverse_cons, sum_app, sum_rev xs]; simp; omega
theorem sum_zero : ∀ xs : List Int, (xs.map fun _ => (0 : Int)).sum = 0
  | [] => rfl
  | x :: xs => by rw [List.map_cons, List.sum_cons, sum_zero xs]; rfl
theorem lvF_len {N : List (List Int)} (hN : netOk N) : ∀ {n : Nat} {u : Int} {q : List Int}, 0 ≤ u → u < N.length → u < n → ((lvF N n (u :: q)).length : Int) = cn N u
  | 0, u, q, h0, h1, h2 => by omega
  | n + 1, u, q, h0, h1, h2 => by
    rw [lvF, cn_eq hN h0 h1]
    have hnd := (nd_ok hN h0 h1).2
    split
    · rename_i e
      rw [e]; simp [mx1]
    · rename_i e
      have key : ∀ xs : List Int, (∀ v ∈ xs, 0 ≤ v ∧ v < u) → (((xs.flatMap fun v => lvF N n (v :: u :: q)).length : Nat) : Int) = (xs.map (cn N)).sum := fun xs => by
        induction xs with
        | nil => intro _; simp
        | cons v xs ih =>
          intro h
          have hv := h v List.mem_cons_self
          have i := lvF_len hN (n := n) (u := v) (q := u :: q) hv.1 (by omega) (by omega)
          rw [List.flatMap_cons, List.length_append, List.map_cons, List.sum_cons, ← ih fun z hz => h z (List.mem_cons_of_mem _ hz), ← i]
          push_cast
          rfl
      rw [key _ fun v hv => hnd v (List.mem_reverse.mp hv)]
      have hr : ((nd N u).reverse.map (cn N)).sum = ((nd N u).map (cn N)).sum := by
        rw [List.map_reverse]
        exact sum_rev _
      rw [hr]
      obtain ⟨v, xs, ex⟩ := List.exists_cons_of_ne_nil e
      have hsum : 1 ≤ ((nd N u).map (cn N)).sum := by
        have c := cn_pos hN (w := v) (hnd v (by rw [ex]; simp)).1 (by have := (hnd v (by rw [ex]; simp)).2; omega)
        have r : 0 ≤ (xs.map (cn N)).sum := by
          have := sum_le (f := fun _ => 0) (g := cn N) (xs := xs) fun z hz => by
            have hz2 := hnd z (by rw [ex]; exact List.mem_cons_of_mem _ hz)
            have := cn_pos hN (w := z) hz2.1 (by omega)
            omega
          have z0 := sum_zero xs
          omega
        rw [ex, List.map_cons, List.sum_cons]
        omega
      unfold mx1
      split <;> omega
def lvK (N : List (List Int)) (p : List Int) : List (List Int) := lvF N (N.length + 1) p
def resP (N : List (List Int)) (P F : List (List Int)) : List (List Int) := F ++ P.reverse.flatMap (lvK N)
def ndP (N : List (List Int)) (P : List (List Int)) : Nat := (P.map fun p => ndF N (N.length + 1) (p.headD 0)).sum
theorem nat_sum_app : ∀ {xs ys : List Nat}, (xs ++ ys).sum = xs.sum + ys.sum
  | [], ys => by simp
  | x :: xs, ys => by rw [List.cons_append, List.sum_cons, List.sum_cons, nat_sum_app]; omega
theorem ndP_app {N P Q : List (List Int)} : ndP N (P ++ Q) = ndP N P + ndP N Q := by rw [ndP, List.map_append, nat_sum_app]; rfl
theorem res_step {N P F : List (List Int)} {u : Int} {q : List Int} (hN : netOk N) (h0 : 0 ≤ u) (h1 : u < N.length) : resP N (P ++ [u :: q]) F = resP N (P ++ (nd N u).map fun v => v :: u :: q) (if nd N u = [] then F ++ [u :: q] else F) := by
  have hnd := (nd_ok hN h0 h1).2
  unfold resP
  rw [List.reverse_append, List.reverse_append, List.flatMap_append, List.flatMap_append]
  simp only [List.reverse_cons, List.reverse_nil, List.nil_append, List.flatMap_cons, List.flatMap_nil, List.append_nil]
  by_cases c : nd N u = []
  · rw [if_pos c, c]
    have : lvK N (u :: q) = [u :: q] := by rw [lvK, lvF, if_pos c]
    simp [this]
  · rw [if_neg c]
    have : lvK N (u :: q) = ((nd N u).map fun v => v :: u :: q).reverse.flatMap (lvK N) := by
      have key : ∀ xs : List Int, (∀ v ∈ xs, 0 ≤ v ∧ v < u) → (xs.flatMap fun v => lvF N N.length (v :: u :: q)) = (xs.map fun v => v :: u :: q).flatMap (lvK N) := fun xs => by
        induction xs with
        | nil => intro _; rfl
        | cons v xs ih =>
          intro h
          have hv := h v List.mem_cons_self
          rw [List.flatMap_cons, List.map_cons, List.flatMap_cons, ih fun z hz => h z (List.mem_cons_of_mem _ hz), lvK, lvF_st hN (n := N.length) (m := N.length + 1) hv.1 (by omega) (by omega) (by omega)]
      rw [← List.map_reverse, ← key _ fun v hv => hnd v (List.mem_reverse.mp hv)]
      rw [lvK, lvF, if_neg c]
    rw [this]
theorem nd_step {N P : List (List Int)} {u : Int} {q : List Int} (hN : netOk N) (h0 : 0 ≤ u) (h1 : u < N.length) : ndP N (P ++ [u :: q]) = 1 + ndP N (P ++ (nd N u).map fun v => v :: u :: q) := by
  have hnd := (nd_ok hN h0 h1).2
  rw [ndP_app, ndP_app]
  have e1 : ndP N [u :: q] = 1 + ((nd N u).map (ndF N N.length)).sum := by simp [ndP, ndF]
  have e2 : ndP N ((nd N u).map fun v => v :: u :: q) = ((nd N u).map (ndF N N.length)).sum := by
    rw [ndP, List.map_map]
    congr 1
    refine List.map_congr_left fun v hv => ?_
    have := hnd v hv
    show ndF N (N.length + 1) v = _
    exact ndF_st hN this.1 (by omega) (by omega) (by omega)
  omega
theorem ndF_pos {N : List (List Int)} {n : Nat} {u : Int} : 1 ≤ ndF N (n + 1) u := by rw [ndF]; omega
theorem ndP_len {N : List (List Int)} : ∀ P : List (List Int), P.length ≤ ndP N P
  | [] => Nat.zero_le _
  | p :: P => by
    have h := ndP_len (N := N) P
    have := ndF_pos (N := N) (n := N.length) (u := p.headD 0)
    rw [ndP, List.map_cons, List.sum_cons]
    rw [ndP] at h
    simp only [List.length_cons]
    omega
/-- a path in hand -/
def PathOk (N : List (List Int)) (p : List Int) : Prop := p ≠ [] ∧ needsOk N.length p
theorem PathOk.next {N : List (List Int)} {u v : Int} {q : List Int} (hN : netOk N) (h : PathOk N (u :: q)) (hv : v ∈ nd N u) : PathOk N (v :: u :: q) := by
  have hu := h.2.2 u List.mem_cons_self
  have hn := (nd_ok hN hu.1 hu.2).2 v hv
  refine ⟨by simp, List.pairwise_cons.mpr ⟨fun z hz => ?_, h.2.1⟩, fun z hz => ?_⟩
  · rcases List.mem_cons.mp hz with rfl | hz
    · exact hn.2
    · have := (List.pairwise_cons.mp h.2.1).1 z hz
      omega
  · rcases List.mem_cons.mp hz with rfl | hz
    · exact ⟨hn.1, by omega⟩
    · exact h.2.2 z hz
def tIL (P : List (List Int)) : List D := P.map fun p => .tup (p.map .int)
theorem opNe_P (o o' : Bool) (P : List (List Int)) : opNe [.lst o (P.map tI), .lst o' []] = some (.bl (!decide (P = []))) := by
  cases P with
  | nil => simpa using opNe_l0 o o' []
  | cons p P =>
    have hq : ((p :: P).map tI).all (pq 2) = true := by
      rw [List.all_eq_true]
      intro d hd
      obtain ⟨x, _, rfl⟩ := List.mem_map.mp hd
      simp
    obtain ⟨ys, g1, g2, g3, g4⟩ := pq_py.pqs 2 ((p :: P).map tI) fun d hd => pq_py 2 d (List.all_eq_true.mp hq d hd)
    have e : eqS (.lst o ((p :: P).map tI)) (.lst o' []) = none := by simp [eqS]
    have hy : ∃ y zs, ys = y :: zs := by
      cases ys with
      | nil =>
        rw [List.map_cons, pyOfL] at g1
        obtain ⟨a, _, h2⟩ := Option.bind_eq_some_iff.mp g1
        obtain ⟨b, _, h3⟩ := Option.map_eq_some_iff.mp h2
        cases h3
      | cons y zs => exact ⟨y, zs, rfl⟩
    obtain ⟨y, zs, rfl⟩ := hy
    have s1 : SeqAt.shaped (.list (y :: zs)) = true := by
      unfold SeqAt.shaped
      rw [show PyData.canLay0 (.list (y :: zs)) = true by simpa [PyData.canLay0] using g2, Bool.true_and, decide_eq_true_eq]
      simp only [PyData.depth]
      omega
    have s2 : SeqAt.shaped (.list []) = true := by decide +kernel
    have e2 : eqvD (.lst o ((p :: P).map tI)) (.lst o' []) = some false := by
      unfold eqvD
      rw [e]
      simp only [pyOf, g1, pyOfL, Option.map_some, s1, s2, and_self, if_true]
      simp [PyData.eqv, PyData.eqvAll]
    simp only [opNe, e2, Option.map_some]
    simp
theorem pop_step {N P : List (List Int)} (h : P ≠ []) (hP : ∀ p ∈ P, PathOk N p) : ∃ (P0 : List (List Int)) (u : Int) (q : List Int), P = P0 ++ [u :: q] ∧ 0 ≤ u ∧ u < N.length ∧ PathOk N (u :: q) := by
  have e := List.dropLast_concat_getLast h
  have hl := hP _ (List.getLast_mem h)
  obtain ⟨u, q, eu⟩ := List.exists_cons_of_ne_nil hl.1
  rw [eu] at e hl
  exact ⟨P.dropLast, u, q, e.symm, (hl.2.2 u List.mem_cons_self).1, (hl.2.2 u List.mem_cons_self).2, hl⟩
theorem ext_ok {N P F : List (List Int)} {w u : Int} {q : List Int} {st : RSt} (hN : netOk N) (hl : N.length ≤ 1000) (u0 : 0 ≤ u) (u1 : u < N.length) (hp : PathOk N (u :: q)) (hPl : P.length ≤ 400000) :
    sMe1 moExt 3 (evLc (itSeq (evOp [(.var 0), (.val (evOp [(.var 4), (.val (evC (.int 0)))] opIxA))] opIxA)) (tgN 5) evYes (evOp [(.val (evTup [(evVar 5)])), (.var 4)] opAdd) [5]) ⟨[.sh (netD N), .sh (.int w), .ow (.lst true (F.map tI)), .ow (.lst true (P.map tI)), .sh (tI (u :: q)), .no], st⟩ = .ok .nx ⟨[.sh (netD N), .sh (.int w), .ow (.lst true (F.map tI)), .ow (.lst true ((P ++ (nd N u).map fun v => v :: u :: q).map tI)), .sh (tI (u :: q)), .no], st⟩ := by
  have hql := sorted_len hp.2.1 hp.2.2
  simp at hql
  have hnd := nd_ok hN u0 u1
  have hndl := sorted_len hnd.1 hnd.2
  simp [ix_net u0 u1]
  rw [lc_map (fun v => tI (v :: u :: q))]
  · simp
    rw [moExt_l (by simp) (by rw [sizeLine_eq]; simp; omega)]
    simp [Function.comp_def]
  · intro v hv
    simp
    rw [opAdd_t (by simp) (by simp) (by rw [sizeLine_eq]; simp; omega)]
    simp
theorem paths_ok {N : List (List Int)} {w : Int} {st : RSt} (hN : netOk N) (hl : N.length ≤ 1000) (h0 : 0 ≤ w) (h1 : w < N.length) (hc : cn N w ≤ 300) : d_law_paths [netD N, .int w] st = .ok (.lst true ((sortL (lvK N [w])).map tI)) st := by
  suffices hs : Rb (d_law_paths [netD N, .int w] st) fun d st' => d = .lst true ((sortL (lvK N [w])).map tI) ∧ st' = st by
    obtain ⟨d, st', e, rfl, rfl⟩ := Rb_iff.mp hs
    exact e
  rw [d_law_paths]; refine Rb.of ?_
  unfold g_law_paths
  have hX : (lvK N [w]).length ≤ 300 := by
    have := lvF_len hN (n := N.length + 1) (u := w) (q := []) h0 h1 (by omega)
    show (lvF N (N.length + 1) [w]).length ≤ 300
    omega
  have hnd0 : ndP N [[w]] ≤ 400000 := by
    have e := ndF_le hN (n := N.length + 1) (u := w) h0 h1 (by omega)
    have p := cn_pos hN h0 h1
    have m : cn N w * (w + 1) ≤ 300 * 1000 := Int.mul_le_mul hc (by omega) (by omega) (by omega)
    have : ndP N [[w]] = ndF N (N.length + 1) w := by simp [ndP]
    omega
  simp
  refine ob_sq (ob_wh (fun k ρ => ∃ P F : List (List Int), ρ = ⟨[.sh (netD N), .sh (.int w), .ow (.lst true (F.map tI)), .ow (.lst true (P.map tI)), .no, .no], st⟩ ∧ (∀ p ∈ P, PathOk N p) ∧ (∀ p ∈ F, p ≠ []) ∧ k = ndP N P ∧ k ≤ 400000 ∧ resP N P F = lvK N [w]) _ ?_ 1000000 (ndP N [[w]]) _ (by omega) ⟨[[w]], [], by simp, ?_, by simp, rfl, hnd0, ?_⟩)
  · rintro k _ ⟨P, F, rfl, hP, hF, rfl, hk, hr⟩
    have hFl : F.length ≤ 300 := by
      rw [← hr] at hX
      unfold resP at hX
      rw [List.length_append] at hX
      omega
    by_cases c : P = []
    · subst c
      have := opNe_P true true []
      simp at this
      have hrF : F = lvK N [w] := by simpa [resP] using hr
      have hs := opSortT_t (o := true) (nss := F) hF
      have hs : opSortT [.lst true (F.map tI)] = some (.lst true ((sortL F).map tI)) := hs
      rw [hrF] at hs
      simp [this, hrF, hs]
    · obtain ⟨P0, u, q, rfl, u0, u1, hp⟩ := pop_step c hP
      have hne := opNe_P true true (P0 ++ [u :: q])
      have hPl := ndP_len (N := N) (P0 ++ [u :: q])
      have hql := sorted_len hp.2.1 hp.2.2
      have hpop := popK_ok 3 [.sh (netD N), .sh (.int w), .ow (.lst true (F.map tI)), .ow (.lst true ((P0 ++ [u :: q]).map tI)), .no, .no] st (P0.map tI) (tI (u :: q))
      simp at hne
      simp [hne]
      rw [popK_ok]
      have hP0 : ∀ p ∈ P0, PathOk N p := fun p hp => hP p (List.mem_append_left _ hp)
      have hP2 : ∀ p ∈ P0 ++ (nd N u).map (fun v => v :: u :: q), PathOk N p := fun p h => by
        rcases List.mem_append.mp h with h | h
        · exact hP0 p h
        · obtain ⟨v, hv, rfl⟩ := List.mem_map.mp h
          exact hp.next hN hv
      have hns := nd_step (P := P0) (q := q) hN u0 u1
      have hrs := res_step (P := P0) (F := F) (q := q) hN u0 u1
      rw [hr] at hrs
      have hP0l : P0.length ≤ 400000 := by
        simp at hPl
        omega
      simp [ix_net u0 u1]
      by_cases cn0 : nd N u = []
      · have hex := ext_ok (P := P0) (F := F ++ [u :: q]) (w := w) (q := q) (st := st) hN hl u0 u1 hp hP0l
        rw [if_pos cn0] at hrs
        simp at hex
        simp [cn0]
        rw [moApp_i (by rw [sizeLine_eq]; simp; omega)]
        simp
        rw [hex]
        simp
        refine ⟨_, ?_, P0 ++ (nd N u).map (fun v => v :: u :: q), F ++ [u :: q], ⟨by simp, by simp⟩, hP2, ?_, rfl, by omega, hrs.symm⟩
        · omega
        · intro p hp2
          rcases List.mem_append.mp hp2 with h | h
          · exact hF p h
          · simp at h; subst h; simp
      · have hex := ext_ok (P := P0) (F := F) (w := w) (q := q) (st := st) hN hl u0 u1 hp hP0l
        rw [if_neg cn0] at hrs
        simp at hex
        simp [cn0]
        rw [hex]
        simp
        refine ⟨_, ?_, P0 ++ (nd N u).map (fun v => v :: u :: q), F, ⟨by simp, by simp⟩, hP2, hF, rfl, by omega, hrs.symm⟩
        omega
  · intro p hp
    simp at hp
    subst hp
    exact ⟨by simp, by simp, by simp; exact ⟨h0, h1⟩⟩
  · simp [resP]
theorem all_ok {N : List (List Int)} {w : Int} {st : RSt} (hN : netOk N) (hl : N.length ≤ 1000) (h0 : 0 ≤ w) (h1 : w < N.length) (hc : cn N w ≤ 300) : d_all_paths [netD N, .int w] st = .ok (.lst true ((sortL (lvK N [w])).map tI)) st := by
  suffices hs : Rb (d_all_paths [netD N, .int w] st) fun d st' => d = .lst true ((sortL (lvK N [w])).map tI) ∧ st' = st by
    obtain ⟨d, st', e, rfl, rfl⟩ := Rb_iff.mp hs
    exact e
  rw [d_all_paths]; refine Rb.of ?_
  unfold g_all_paths
  have hX : (lvK N [w]).length ≤ 300 := by
    have := lvF_len hN (n := N.length + 1) (u := w) (q := []) h0 h1 (by omega)
    show (lvF N (N.length + 1) [w]).length ≤ 300
    omega
  have hnd0 : ndP N [[w]] ≤ 400000 := by
    have e := ndF_le hN (n := N.length + 1) (u := w) h0 h1 (by omega)
    have p := cn_pos hN h0 h1
    have m : cn N w * (w + 1) ≤ 300 * 1000 := Int.mul_le_mul hc (by omega) (by omega) (by omega)
    have : ndP N [[w]] = ndF N (N.length + 1) w := by simp [ndP]
    omega
  have em := many_paths_ok (st := st) hN (by omega) h0 h1
  simp [em, show ¬ (300 < cn N w) by omega]
  refine ob_sq (ob_wh (fun k ρ => ∃ P F : List (List Int), ρ = ⟨[.sh (netD N), .sh (.int w), .ow (.lst true (F.map tI)), .ow (.lst true (P.map tI)), .no, .no], st⟩ ∧ (∀ p ∈ P, PathOk N p) ∧ (∀ p ∈ F, p ≠ []) ∧ k = ndP N P ∧ k ≤ 400000 ∧ resP N P F = lvK N [w]) _ ?_ 1000000 (ndP N [[w]]) _ (by omega) ⟨[[w]], [], by simp, ?_, by simp, rfl, hnd0, ?_⟩)
  · rintro k _ ⟨P, F, rfl, hP, hF, rfl, hk, hr⟩
    have hFl : F.length ≤ 300 := by
      rw [← hr] at hX
      unfold resP at hX
      rw [List.length_append] at hX
      omega
    by_cases c : P = []
    · subst c
      have hrF : F = lvK N [w] := by simpa [resP] using hr
      have hs := opSortT_t (o := true) (nss := F) hF
      have hs : opSortT [.lst true (F.map tI)] = some (.lst true ((sortL F).map tI)) := hs
      rw [hrF] at hs
      simp [hrF, hs]
    · obtain ⟨P0, u, q, rfl, u0, u1, hp⟩ := pop_step c hP
      have hPl := ndP_len (N := N) (P0 ++ [u :: q])
      have hql := sorted_len hp.2.1 hp.2.2
      have hpop := popK_ok 3 [.sh (netD N), .sh (.int w), .ow (.lst true (F.map tI)), .ow (.lst true ((P0 ++ [u :: q]).map tI)), .no, .no] st (P0.map tI) (tI (u :: q))
      have hlp : 0 < (P0.length : Int) + 1 := by omega
      simp [hlp]
      rw [popK_ok]
      have hP0 : ∀ p ∈ P0, PathOk N p := fun p hp => hP p (List.mem_append_left _ hp)
      have hP2 : ∀ p ∈ P0 ++ (nd N u).map (fun v => v :: u :: q), PathOk N p := fun p h => by
        rcases List.mem_append.mp h with h | h
        · exact hP0 p h
        · obtain ⟨v, hv, rfl⟩ := List.mem_map.mp h
          exact hp.next hN hv
      have hns := nd_step (P := P0) (q := q) hN u0 u1
      have hrs := res_step (P := P0) (F := F) (q := q) hN u0 u1
      rw [hr] at hrs
      have hP0l : P0.length ≤ 400000 := by
        simp at hPl
        omega
      simp [ix_net u0 u1]
      by_cases cn0 : nd N u = []
      · have hex := ext_ok (P := P0) (F := F ++ [u :: q]) (w := w) (q := q) (st := st) hN hl u0 u1 hp hP0l
        rw [if_pos cn0] at hrs
        simp at hex
        simp [cn0]
        rw [moApp_i (by rw [sizeLine_eq]; simp; omega)]
        simp
        rw [hex]
        simp
        refine ⟨_, ?_, P0 ++ (nd N u).map (fun v => v :: u :: q), F ++ [u :: q], ⟨by simp, by simp⟩, hP2, ?_, rfl, by omega, hrs.symm⟩
        · omega
        · intro p hp2
          rcases List.mem_append.mp hp2 with h | h
          · exact hF p h
          · simp at h; subst h; simp
      · have hex := ext_ok (P := P0) (F := F) (w := w) (q := q) (st := st) hN hl u0 u1 hp hP0l
        rw [if_neg cn0] at hrs
        simp at hex
        simp [cn0]
        rw [hex]
        simp
        refine ⟨_, ?_, P0 ++ (nd N u).map (fun v => v :: u :: q), F, ⟨by simp, by simp⟩, hP2, hF, rfl, by omega, hrs.symm⟩
        omega
  · intro p hp
    simp at hp
    subst hp
    exact ⟨by simp, by simp, by simp; exact ⟨h0, h1⟩⟩
  · simp [resP]
theorem all_many {N : List (List Int)} {w : Int} {st : RSt} (hN : netOk N) (hl : N.length ≤ 1000) (h0 : 0 ≤ w) (h1 : w < N.length) (hc : 300 < cn N w) : d_all_paths [netD N, .int w] st = .ex ⟨"TooMany", [], []⟩ st := by
  rw [d_all_paths, fnRes_eq]
  unfold g_all_paths
  have em := many_paths_ok (st := st) hN (by omega) h0 h1
  simp [em, hc]
theorem told_many {N : List (List Int)} {w : Int} {st : RSt} (hN : netOk N) (hl : N.length ≤ 1000) (h0 : 0 ≤ w) (h1 : w < N.length) (hc : 300 < cn N w) : d_law_told [netD N, .int w] st = .ok (.tup [.non, .str "many"]) st := by
  rw [d_law_told, fnRes_eq]
  unfold g_law_told
  have em := all_many (st := st) hN hl h0 h1 hc
  have hx : tx_RoomError.lookup (⟨"TooMany", [], []⟩ : Exc).cls = some true := rfl
  have e1 : ∀ ρ, evXis ⟨"TooMany", [], []⟩ te_BadRow_Barred_NoMove_NoTree ρ = .ok (.bl false) ρ := fun ρ => evXis_eq rfl
  have e2 : ∀ ρ, evXis ⟨"TooMany", [], []⟩ te_ValueError ρ = .ok (.bl true) ρ := fun ρ => evXis_eq rfl
  have e3 : ∀ ρ, evXis ⟨"TooMany", [], []⟩ te_TooMany ρ = .ok (.bl true) ρ := fun ρ => evXis_eq rfl
  simp [em]
  rw [tasK_ex hx (by simp)]
  simp [e1, e2, e3]
theorem told_few {N : List (List Int)} {w : Int} {st : RSt} (hN : netOk N) (hl : N.length ≤ 1000) (h0 : 0 ≤ w) (h1 : w < N.length) (hc : cn N w ≤ 300) : d_law_told [netD N, .int w] st = .ok (.tup [.lst true ((sortL (lvK N [w])).map tI), .str ""]) st := by
  rw [d_law_told, fnRes_eq]
  unfold g_law_told
  have em := all_ok (st := st) hN hl h0 h1 hc
  simp [em]
theorem right_ok {N : List (List Int)} {w : Int} {st : RSt} (hN : netOk N) (hl : N.length ≤ 1000) (h0 : 0 ≤ w) (h1 : w < N.length) : d_law_right [netD N, .int w] st = .ok (.bl true) st := by
  rw [d_law_right, fnRes_eq]
  unfold g_law_right
  have ec := path_count_ok (st := st) hN (by omega) h0 h1
  by_cases hc : 300 < cn N w
  · have et := told_many (st := st) hN hl h0 h1 hc
    have ee : opEq [.tup [.non, .str "many"], .tup [.non, .str "many"]] = some (.bl true) := opEq_sameT (k := 2) (by simp; decide +kernel) (by decide)
    simp [ec, hc, et, ee]
  · have et := told_few (st := st) hN hl h0 h1 (by omega)
    have ep := paths_ok (st := st) hN hl h0 h1 (by omega)
    generalize sortL (lvK N [w]) = X at et ep
    have es : Cm.d_law_same [.lst false (X.map tI), .lst false (X.map tI)] st = .ok (.bl true) st := same_ok 5 st (by simp) (by simp) (by decide)
    simp [ec, hc, et, ep]
    rw [itRg1 (by omega) (by omega)]
    rw [show rg 0 2 = [0, 1] by decide]
    simp [forL_cons, et, es]
    done
theorem netOk_app {N M : List (List Int)} (h : netOk N) (k : ∀ x ∈ M, needsOk N.length x) : netOk (N ++ M) := fun i ys e => by
  by_cases c : i < N.length
  · rw [List.getElem?_append_left c] at e
    exact h i ys e
  · rw [List.getElem?_append_right (by omega)] at e
    have := k ys (List.mem_of_getElem? e)
    exact ⟨this.1, fun x hx => ⟨(this.2 x hx).1, by have := (this.2 x hx).2; omega⟩⟩
theorem netOk_nil (m : Nat) : netOk (List.replicate m []) := fun i ys e => by
  have := List.mem_of_getElem? e
  rw [List.mem_replicate] at this
  rw [this.2]
  exact ⟨by simp, by simp⟩
theorem h_law (ns : List Int) (h : ns.length ≤ 63) : ∃ ρ, g_law ⟨.no :: .sh .rs :: List.replicate 6 .no, ⟨cellsF ns, 0⟩⟩ = .ok (.rt (.bl true)) ρ := by
  have g0 := gd_start ns h
  generalize (⟨cellsF ns, 0⟩ : RSt) = st0 at g0 ⊢
  suffices hs : Ob (g_law ⟨.no :: .sh .rs :: List.replicate 6 .no, st0⟩) fun fl ρ => fl = .rt (.bl true) by
    obtain ⟨fl, ρ, e, rfl⟩ := Ob_iff.mp hs
    exact ⟨ρ, e⟩
  unfold g_law
  simp
  rw [itRg1 (by omega) (by omega)]
  simp
  refine ob_for (fun pre ρ => ∃ st r, ρ = ⟨[.no, .sh .rs, .no, .no, .no, .no, .no, .no], st⟩ ∧ 10000 ≤ r + pre.length * 1000 ∧ Gd r st) ?_ ?_ ?_
  · exact ⟨st0, _, rfl, Nat.le_add_right _ _, g0.mono (show 10000 ≤ _ by decide)⟩
  · rintro pre x post _ hx ⟨st, r, rfl, hr, g⟩
    refine ⟨_, rfl, ?_⟩
    have hlen := congrArg List.length hx
    simp at hlen
    obtain ⟨m, hm, em⟩ : ∃ m : Int, (2 ≤ m ∧ m ≤ 40) ∧ atI [D.int 9, D.int 40] (if x = 0 then 1 else 0) = some (.int m) := by
      by_cases c : x = 0
      · exact ⟨40, by omega, by rw [if_pos c]; rfl⟩
      · exact ⟨9, by omega, by rw [if_neg c]; rfl⟩
    obtain ⟨_, st1, e1, n, rfl, n0, n1, g1⟩ := Rb_iff.mp (many_ok (m := m) (r := r - 1000 + 1 + 2 + 9 * 40) hm.1 (by omega) (g.mono (by omega)))
    obtain ⟨_, st2, e2, N, rfl, hN, hl, g2⟩ := Rb_iff.mp (net_ok (n := n) (r := r - 1000 + 1) (by omega) (by omega) (g1.mono (by omega)))
    obtain ⟨w, st3, e3, w0, w1, g3⟩ := take_gd (r := r - 1000) (n := (N.length : Int)) g2 (by omega) (by omega)
    have f1 := right_ok (N := N) (w := (N.length : Int) - 1) (st := st3) hN (by omega) (by omega) (by omega)
    have f2 := right_ok (N := N) (w := w) (st := st3) hN (by omega) w0 w1
    simp [em, e1, e2, e3, forL_cons, f1, f2]
    exact ⟨r - 1000, by omega, g3⟩
  · rintro _ ⟨st, r, rfl, hr, g⟩
    obtain ⟨t, st1, e1, t0, t1, g1⟩ := take_gd (r := 2) (n := 2) (g.mono (by simp at hr; omega)) (by decide) (by decide)
    obtain ⟨b, st2, e2, b0, b1, g2⟩ := take_gd (r := 1) (n := 3) g1 (by decide) (by decide)
    obtain ⟨i, st3, e3, i0, i1, g3⟩ := take_gd (r := 0) (n := 9) g2 (by decide) (by decide)
    obtain ⟨m, hm, em⟩ : ∃ m : Int, (1 ≤ m ∧ m ≤ 400) ∧ atI [D.int 8, D.int 9, D.int 10, D.int 11, D.int 12, D.int 13, D.int 14, D.int 60, D.int 400] i = some (.int m) := by
      have : i = 0 ∨ i = 1 ∨ i = 2 ∨ i = 3 ∨ i = 4 ∨ i = 5 ∨ i = 6 ∨ i = 7 ∨ i = 8 := by omega
      rcases this with rfl | rfl | rfl | rfl | rfl | rfl | rfl | rfl | rfl <;> exact ⟨_, ⟨by decide, by decide⟩, rfl⟩
    -- sources alone
    have n1 : netOk (List.replicate (300 + t).toNat [] ++ [rg 0 (300 + t)]) := netOk_app (netOk_nil _) fun x hx => by
      simp at hx
      subst hx
      exact ⟨rg_sorted _ _, fun y hy => by have := mem_rg.mp hy; simp; omega⟩
    have f1 := right_ok (w := 300 + t) (st := st1) n1 (by simp; omega) (by omega) (by simp; omega)
    have a1 : opMul [.lst true [.tup []], .int (300 + t)] = some (.lst true (List.replicate (300 + t).toNat (.tup []))) := by
      rw [opMul_l (by simp) (by omega) (by simp; omega) (by omega)]; simp
    have a2 := opRgT1' (j := 300 + t) (by omega) (by omega)
    have a3 := opAdd_l (o := true) (o' := true) (xs := List.replicate (300 + t).toNat (.tup [])) (ys := [.tup ((rg 0 (300 + t)).map .int)]) (shrL_all.mpr fun d hd => by rw [(List.mem_replicate.mp hd).2]; simp) (by simp) (by rw [sizeLine_eq]; simp; omega)
    have a4 : shrL (List.replicate (300 + t).toNat (D.tup [])) = true := shrL_all.mpr fun d hd => by rw [(List.mem_replicate.mp hd).2]; simp
    rw [netD, show tI = fun xs : List Int => D.tup (xs.map fun x => D.int x) from rfl] at f1
    simp at f1
    simp [e1, a1, a2, a3, a4, frzL_shr a4, f1]
    -- two rows
    have n2 : netOk ((List.replicate 30 [] ++ List.replicate 10 (rg 0 30)) ++ [rg 30 40]) := netOk_app (netOk_app (netOk_nil _) fun x hx => by
      have := (List.mem_replicate.mp hx).2
      subst this
      exact ⟨rg_sorted _ _, fun y hy => by have := mem_rg.mp hy; simp; omega⟩) fun x hx => by
      simp at hx
      subst hx
      exact ⟨rg_sorted _ _, fun y hy => by have := mem_rg.mp hy; simp; omega⟩
    have f2 := right_ok (w := 40) (st := st1) n2 (by simp) (by omega) (by simp)
    have b1 : opMul [.lst true [.tup []], .int 30] = some (.lst true (List.replicate 30 (.tup []))) := by
      rw [opMul_l (by simp) (by omega) (by simp) (by omega), repL_one]; rfl
    have b2 := opRgT1' (j := 30) (by omega) (by omega)
    have b3 : opMul [.lst true [.tup ((rg 0 30).map .int)], .int 10] = some (.lst true (List.replicate 10 (.tup ((rg 0 30).map .int)))) := by
      rw [opMul_l (by simp) (by omega) (by simp) (by omega), repL_one]; rfl
    have s1 : shrL (List.replicate 30 (D.tup [])) = true := shrL_all.mpr fun d hd => by rw [(List.mem_replicate.mp hd).2]; simp
    have s2 : shrL (List.replicate 10 (D.tup ((rg 0 30).map .int))) = true := shrL_all.mpr fun d hd => by rw [(List.mem_replicate.mp hd).2]; simp
    have b4 := opAdd_l (o := true) (o' := true) s1 s2 (by rw [sizeLine_eq]; simp)
    have b5 := opRgT2' (i := 30) (j := 40) (by omega) (by omega) (by omega) (by omega)
    have b6 := opAdd_l (o := true) (o' := true) (xs := List.replicate 30 (D.tup []) ++ List.replicate 10 (D.tup ((rg 0 30).map .int))) (ys := [.tup ((rg 30 40).map .int)]) (by rw [shrL_append, s1, s2]; rfl) (by simp) (by rw [sizeLine_eq]; simp)
    have s3 : shrL (List.replicate 30 (D.tup []) ++ List.replicate 10 (D.tup ((rg 0 30).map .int)) ++ [.tup ((rg 30 40).map .int)]) = true := by rw [shrL_append, shrL_append, s1, s2]; simp
    generalize hx2 : List.replicate 30 (D.tup []) ++ List.replicate 10 (D.tup ((rg 0 30).map .int)) ++ [.tup ((rg 30 40).map .int)] = X2 at b6 s3
    have hf2 : netD ((List.replicate 30 [] ++ List.replicate 10 (rg 0 30)) ++ [rg 30 40]) = .tup X2 := by
      rw [← hx2, netD, List.map_append, List.map_append, List.map_replicate, List.map_replicate]; rfl
    rw [hf2] at f2
    clear hf2 hx2
    generalize List.replicate 30 (D.tup []) = RA at b1 b4 b6
    generalize List.replicate 10 (D.tup ((rg 0 30).map .int)) = RB at b3 b4 b6
    simp [b1, b2, b3, b4, b5, b6, s3, frzL_shr s3, f2]
    -- rows
    have hrn : netOk (rowN m (1 + b)) := fun j ys e => by
      rw [rowN, List.getElem?_map] at e
      obtain ⟨z, hz, rfl⟩ := Option.map_eq_some_iff.mp e
      have hj := (rg_get hz).1
      refine ⟨rg_sorted _ _, fun y hy => ?_⟩
      have := mem_rg.mp hy
      have h2 : (if 0 < z - (1 + b) then z - (1 + b) else 0) ≥ 0 := by split <;> omega
      omega
    have hrl : (rowN m (1 + b)).length = m.toNat := by simp [rowN]
    have f3 := right_ok (N := rowN m (1 + b)) (w := m - 1) (st := st3) hrn (by omega) (by omega) (by omega)
    simp [e2, e3, em]
    rw [itRg1 (by omega) (by omega)]
    simp
    rw [lc_map (fun w => tI (rg (if 0 < w - (1 + b) then w - (1 + b) else 0) w))]
    · rw [netD, rowN, List.map_map, show tI = fun xs : List Int => D.tup (xs.map fun x => D.int x) from rfl] at f3
      simp [Function.comp_def] at f3
      simp [f3]
    · intro w hw
      rw [mem_rg] at hw
      simp
      rw [opRgT2' (by split <;> omega) (by split <;> omega) (by omega) (by omega)]
      simp
end K36

/- part K36B -/
namespace K36
open PySem PySem.Spec PyProof.Rows Fw L2
def top (i : Nat) : Stmt := PySem.Challenge.pw_fewrooms_k36_all_paths.main.body.getD i (.Pass ⟨0, 0, 0, 0⟩)
abbrev s_law_take : Stmt := top 15
def nLawTake : List Str := ["_law_state", "_law_many_here", "_law_turn", "_law_place", "_law_cell", "_law_digit", "_law_mixed"]
theorem scLawTake : FnScope ["_law_state", "_law_many_here", "_law_turn", "_law_place", "_law_cell", "_law_digit", "_law_mixed"] ["_law_state", "_law_many_here"] (defScope s_law_take) := ⟨rfl, rfl, rfl, by decide +kernel, rfl, by decide +kernel, by decide +kernel⟩
abbrev s_law_begin : Stmt := top 14
def nLawBegin : List Str := ["_law_script", "_law_cells"]
theorem scLawBegin : FnScope ["_law_script", "_law_cells"] ["_law_script"] (defScope s_law_begin) := ⟨rfl, rfl, rfl, by decide +kernel, rfl, by decide +kernel, by decide +kernel⟩
abbrev s_law_tree_net : Stmt := top 18
def nLawTreeNet : List Str := ["_law_state", "_law_many_here", "_law_open_ones", "_law_found", "_law_k", "_law_so_many"]
theorem scLawTreeNet : FnScope ["_law_state", "_law_many_here", "_law_open_ones", "_law_found", "_law_k", "_law_so_many"] ["_law_state", "_law_many_here"] (defScope s_law_tree_net) := ⟨rfl, rfl, rfl, by decide +kernel, rfl, by decide +kernel, by decide +kernel⟩
abbrev s_law_some_needs : Stmt := top 17
def nLawSomeNeeds : List Str := ["_law_state", "_law_k", "_law_found", "_law_turn", "_law_far"]
theorem scLawSomeNeeds : FnScope ["_law_state", "_law_k", "_law_found", "_law_turn", "_law_far"] ["_law_state", "_law_k"] (defScope s_law_some_needs) := ⟨rfl, rfl, rfl, by decide +kernel, rfl, by decide +kernel, by decide +kernel⟩
abbrev s_law_net : Stmt := top 19
def nLawNet : List Str := ["_law_state", "_law_many_here", "_law_way", "_law_wide", "_law_k", "_law_some", "_law_needs", "_law_half", "_law_n"]
theorem scLawNet : FnScope ["_law_state", "_law_many_here", "_law_way", "_law_wide", "_law_k", "_law_some", "_law_needs", "_law_half", "_law_n"] ["_law_state", "_law_many_here"] (defScope s_law_net) := ⟨rfl, rfl, rfl, by decide +kernel, rfl, by decide +kernel, by decide +kernel⟩
abbrev s_law_many : Stmt := top 20
def nLawMany : List Str := ["_law_state", "_law_most", "_law_way"]
theorem scLawMany : FnScope ["_law_state", "_law_most", "_law_way"] ["_law_state", "_law_most"] (defScope s_law_many) := ⟨rfl, rfl, rfl, by decide +kernel, rfl, by decide +kernel, by decide +kernel⟩
abbrev s_law_path_count : Stmt := top 21
def nLawPathCount : List Str := ["_law_net_here", "_law_work", "_law_many_here", "_law_needs", "_law_need"]
theorem scLawPathCount : FnScope ["_law_net_here", "_law_work", "_law_many_here", "_law_needs", "_law_need"] ["_law_net_here", "_law_work"] (defScope s_law_path_count) := ⟨rfl, rfl, rfl, by decide +kernel, rfl, by decide +kernel, by decide +kernel⟩
abbrev s_all_needed : Stmt := top 8
def nAllNeeded : List Str := ["net", "asked", "wanted", "work", "need"]
theorem scAllNeeded : FnScope ["net", "asked", "wanted", "work", "need"] ["net", "asked"] (defScope s_all_needed) := ⟨rfl, rfl, rfl, by decide +kernel, rfl, by decide +kernel, by decide +kernel⟩
abbrev s_many_paths : Stmt := top 11
def nManyPaths : List Str := ["net", "work", "many", "one", "need"]
theorem scManyPaths : FnScope ["net", "work", "many", "one", "need"] ["net", "work"] (defScope s_many_paths) := ⟨rfl, rfl, rfl, by decide +kernel, rfl, by decide +kernel, by decide +kernel⟩
abbrev s_all_paths : Stmt := top 12
def nAllPaths : List Str := ["net", "work", "found", "pile", "path", "need"]
theorem scAllPaths : FnScope ["net", "work", "found", "pile", "path", "need"] ["net", "work"] (defScope s_all_paths) := ⟨rfl, rfl, rfl, by decide +kernel, rfl, by decide +kernel, by decide +kernel⟩
abbrev s_law_told : Stmt := top 23
def nLawTold : List Str := ["_law_net_here", "_law_work", "_law_found", "_law_word", "error", "_law_others"]
theorem scLawTold : FnScope ["_law_net_here", "_law_work", "_law_found", "_law_word", "error", "_law_others"] ["_law_net_here", "_law_work"] (defScope s_law_told) := ⟨rfl, rfl, rfl, by decide +kernel, rfl, by decide +kernel, by decide +kernel⟩
abbrev s_law_paths : Stmt := top 22
def nLawPaths : List Str := ["_law_net_here", "_law_work", "_law_found", "_law_pile", "_law_path", "_law_need"]
theorem scLawPaths : FnScope ["_law_net_here", "_law_work", "_law_found", "_law_pile", "_law_path", "_law_need"] ["_law_net_here", "_law_work"] (defScope s_law_paths) := ⟨rfl, rfl, rfl, by decide +kernel, rfl, by decide +kernel, by decide +kernel⟩
abbrev s_law_same : Stmt := top 16
def nLawSame : List Str := ["_law_found", "_law_due", "_law_one", "_law_other"]
theorem scLawSame : FnScope ["_law_found", "_law_due", "_law_one", "_law_other"] ["_law_found", "_law_due"] (defScope s_law_same) := ⟨rfl, rfl, rfl, by decide +kernel, rfl, by decide +kernel, by decide +kernel⟩
abbrev s_law_right : Stmt := top 24
def nLawRight : List Str := ["_law_net_here", "_law_work", "_law_due", "_law_again", "_law_found", "_law_word"]
theorem scLawRight : FnScope ["_law_net_here", "_law_work", "_law_due", "_law_again", "_law_found", "_law_word"] ["_law_net_here", "_law_work"] (defScope s_law_right) := ⟨rfl, rfl, rfl, by decide +kernel, rfl, by decide +kernel, by decide +kernel⟩
abbrev s_law : Stmt := top 25
def nLaw : List Str := ["_law_script", "_law_state", "_law_turn", "_law_net_here", "_law_work", "_law_many_here", "_law_wide", "_law_k"]
theorem scLaw : FnScope ["_law_script", "_law_state", "_law_turn", "_law_net_here", "_law_work", "_law_many_here", "_law_wide", "_law_k"] ["_law_script"] (defScope s_law) := ⟨rfl, rfl, rfl, by decide +kernel, rfl, by decide +kernel, by decide +kernel⟩
structure XFacts (K : PySem.W.Frag) (mg : Str → Option Value) : Prop where
  g_RoomError : mg "RoomError" = some (.ref (clsAt K "RoomError"))
  g_Barred : mg "Barred" = some (.ref (clsAt K "Barred"))
  g_NoMove : mg "NoMove" = some (.ref (clsAt K "NoMove"))
  g_NoTree : mg "NoTree" = some (.ref (clsAt K "NoTree"))
  g_TooMany : mg "TooMany" = some (.ref (clsAt K "TooMany"))
  g_BadRow : mg "BadRow" = some (.ref (clsAt K "BadRow"))
  x0_TooMany : ExC0 K mg "TooMany"
  ext_RoomError : ExT K (.ref (clsAt K "RoomError")) tx_RoomError
  it_Barred : IsT K (.ref (clsAt K "Barred")) te_Barred
  it_NoMove : IsT K (.ref (clsAt K "NoMove")) te_NoMove
  it_NoTree : IsT K (.ref (clsAt K "NoTree")) te_NoTree
  it_TooMany : IsT K (.ref (clsAt K "TooMany")) te_TooMany
  it_BadRow : IsT K (.ref (clsAt K "BadRow")) te_BadRow
  it_ValueError : IsT K (.type "ValueError") te_ValueError
  its_BadRow_Barred_NoMove_NoTree : IsTs K [.ref (clsAt K "BadRow"), .ref (clsAt K "Barred"), .ref (clsAt K "NoMove"), .ref (clsAt K "NoTree")] te_BadRow_Barred_NoMove_NoTree
  xc : XCs K xNames
  tt : True
section
variable {P : Program} {w : World} {K : PySem.W.Frag} {mg : Str → Option Value} {base : Heap}

theorem ok_law_take {f : Addr} {fd : FuncData} (F : Fun K "_law_take" "_law_take" s_law_take f fd) (hm : mg "_law_take" = some (.ref f)) (b : Binds K fd ["_law_state", "_law_many_here"] []) (bl : Blt mg) : CalOk P w K mg base 1 "_law_take" 2 takeD := by
  refine ⟨f, fd, _, hm, F.kp, b, F.okX scLawTake (fun vs H Q E h => h.1) (fun cdv A outer s H vs Q E hr h => ?_)⟩
  obtain ⟨hn, ⟨rs, cl⟩, M, ds, st, hcl, rl, ok, sM, md, hl, q⟩ := h
  rcases takeD_inv ds st with e0 | ⟨n, rfl, hok, e0⟩
  · rw [e0] at q
    exact q.elim
  · rw [e0] at q
    · dsimp only at q
      obtain ⟨⟨a, c, v1, rfl, rfl, rfl⟩, hsc⟩ : (∃ (a c : Addr) (v1 : V), rs = some (a, c) ∧ vs = [.ref a, v1] ∧ v1 = .int n) ∧ True := by
        generalize eg : ([] : List Addr) = G at rl
        cases rl with
        | cons h1 r1 =>
          cases h1 with
          | rs e =>
            cases r1 with
            | cons h2 r2 =>
              cases h2
              cases r2
              exact ⟨⟨_, _, _, e, rfl, rfl⟩, trivial⟩
      obtain ⟨ne, h1, h2⟩ := ok
      unfold takeOk at hok
      simp only [Bool.and_eq_true, decide_eq_true_eq] at hok
      obtain ⟨⟨⟨⟨⟨n0, n1⟩, t0⟩, t1⟩, l0⟩, l1⟩ := hok
      have hu := hu_of hr
      refine ⟨_, pss_cons (ps_set (i := 2) scLawTake.nd rfl (by first | exact Or.inl rfl | exact Or.inr rfl) (pe_op op_add (pe_dget hu (pv 0) pe_str (fun _ _ => rfl)) pe_int))
        (pss_cons (ps_dput hu (pv 0) pe_str (pv 2) rfl)
        (pss_cons (ps_set (i := 3) scLawTake.nd rfl (by first | exact Or.inl rfl | exact Or.inr rfl) (pe_op op_mod (pv 2) (pe_callB call_len_seq (by rfl) bl.len PySem.boot_len (pa_cons (pe_dget hu (pv 0) pe_str (fun _ _ => rfl)) pa_nil))))
        (pss_cons (ps_set (i := 4) scLawTake.nd rfl (by first | exact Or.inl rfl | exact Or.inr rfl) (pe_ix ix_list (pe_dget hu (pv 0) pe_str (fun _ _ => rfl)) (pv 3) (fun _ _ => rfl)))
        (pss_cons (ps_if (pt_cmpR op_ge (pv 4) (pe_op op_pow pe_int pe_int) (nomark _))
          (pss_cons (ps_asg (pe_callB call_divmod (by rfl) bl.divmod boot_divmod (pa_cons (pv 4) (pa_cons (pv 1) pa_nil))) (pg_tup rfl (pgs_cons (pg_sub (pe_dget hu (pv 0) pe_str (fun _ _ => rfl)) (pv 3) set_list) (pgs_cons (pg_name (i := 5) scLawTake.nd rfl (by first | exact Or.inl rfl | exact Or.inr rfl)) pgs_nil))))
            (pss_one (ps_ret (pv 5)))) pss_nil)
        (pss_cons (ps_set (i := 6) scLawTake.nd rfl (by first | exact Or.inl rfl | exact Or.inr rfl) (pe_op op_mod (pe_op op_mul (pe_op op_add (pe_op op_add (pe_op op_mod (pv 4) pe_int) (pe_op op_mul (pe_op op_mul (pv 2) (pv 2)) pe_int)) pe_int) pe_int) pe_int))
        (pss_cons (ps_set (i := 6) scLawTake.nd rfl (by first | exact Or.inl rfl | exact Or.inr rfl) (pe_op op_mod (pe_op op_mul (pv 6) (pv 6)) pe_int))
        (pss_one (ps_ret (pe_op op_mod (pe_op op_fdiv (pe_op op_mod (pe_op op_mul (pe_op op_add (pv 6) (pe_op op_mul (pv 2) pe_int)) pe_int) pe_int) pe_int) (pv 1)))))))))), ?_⟩
      have g1 : DGet H a (.str "turn") (some (.int st.turn)) := .inl ⟨_, .inr "turn", .inl h1, rfl, rfl⟩
      refine ⟨_, rfl, a, _, rfl, g1, _, _, rfl, rfl, ?_⟩
      have e2 : putK [((.inr "cells" : Key), V.ref c), ((.inr "turn" : Key), V.int st.turn)] (.inr "turn") (.int (st.turn + 1)) = [(.inr "cells", .ref c), (.inr "turn", .int (st.turn + 1))] := rfl
      have p1 : DPut H a (.str "turn") (.int (st.turn + 1)) (upd H a (.dK [(.inr "cells", .ref c), (.inr "turn", .int (st.turn + 1))])) := .inl ⟨_, .inr "turn", h1, rfl, by show 2 < sizeLine; decide, by rw [e2]⟩
      refine ⟨_, rfl, _, rfl, a, _, rfl, p1, ?_⟩
      have k1 : upd H a (.dK [(.inr "cells", .ref c), (.inr "turn", .int (st.turn + 1))]) a = some (.dK [(.inr "cells", .ref c), (.inr "turn", .int (st.turn + 1))]) := upd_same
      have g2 : DGet (upd H a (.dK [(.inr "cells", .ref c), (.inr "turn", .int (st.turn + 1))])) a (.str "cells") (some (.ref c)) := .inl ⟨_, .inr "cells", .inl k1, rfl, rfl⟩
      have k2 : upd H a (.dK [(.inr "cells", .ref c), (.inr "turn", .int (st.turn + 1))]) c = some (.lst (st.cells.map V.int)) := by rw [upd_ne ne.symm]; exact h2
      generalize hH1 : upd H a (.dK [(.inr "cells", .ref c), (.inr "turn", .int (st.turn + 1))]) = H1 at k1 k2 g2 ⊢
      have hl1 : HLen H1 := by rw [← hH1]; exact hl.upd (by intro vs e; rcases e with e | e <;> cases e)
      have x1 : Ext ⟨some (a, c), cl⟩ H H1 := fun b o e nb => by
        rw [← hH1, upd_ne (by rintro rfl; exact nb (by simp [sA]))]; exact e
      refine ⟨_, rfl, _, rfl, a, _, rfl, g2, c, _, rfl, .inl (SqL.of k2), _, _, rfl, rfl, by rw [List.length_map]; omega, ?_⟩
      have hp0 : 0 ≤ (st.turn + 1) % ((st.cells.map V.int).length : Int) := Int.emod_nonneg _ (by rw [List.length_map]; omega)
      have hp1 : (st.turn + 1) % ((st.cells.map V.int).length : Int) < (st.cells.length : Int) := by rw [List.length_map]; exact Int.emod_lt_of_pos _ (by omega)
      rw [List.length_map] at hp0 hp1
      have hpl : ((st.turn + 1) % (st.cells.length : Int)).toNat < st.cells.length := by omega
      have hpe : (((st.turn + 1) % (st.cells.length : Int)).toNat : Int) = (st.turn + 1) % (st.cells.length : Int) := Int.toNat_of_nonneg hp0
      have hcell : atI (st.cells.map V.int) ((st.turn + 1) % ((st.cells.map V.int).length : Int)) = some (.int (st.cells.getD ((st.turn + 1) % (st.cells.length : Int)).toNat 0)) := by
        rw [List.length_map, ← hpe]
        refine atI_nat ?_
        rw [List.getElem?_map, List.getD_eq_getElem?_getD, hpe, List.getElem?_eq_getElem hpl]
        rfl
      refine ⟨_, rfl, a, _, rfl, g2, _, rfl, c, _, _, _, rfl, rfl, SqL.of k2, hcell, ?_⟩
      refine ⟨_, rfl, _, _, rfl, rfl, ⟨by decide, by decide, by decide⟩, _, _, rfl, rfl, _, rfl, ?_⟩
      refine ite2 (fun hc => ?_) (fun hc => ?_)
      · have hc : 10 ^ 18 ≤ st.cells.getD ((st.turn + 1) % (st.cells.length : Int)).toNat 0 := of_decide_eq_true hc
        refine ⟨_, rfl, _, rfl, _, _, rfl, ⟨n0, n1⟩, fun p hp => ?_⟩
        have g3 : DGet (upd H1 p (.tup [.int (st.cells.getD ((st.turn + 1) % (st.cells.length : Int)).toNat 0 / n), .int (st.cells.getD ((st.turn + 1) % (st.cells.length : Int)).toNat 0 % n)])) a (.str "cells") (some (.ref c)) := .inl ⟨_, .inr "cells", .inl (same_upd hp _ _ k1), rfl, rfl⟩
        refine ⟨p, _, rfl, SqT.of upd_same, rfl, _, _, rfl, ⟨_, rfl, a, _, rfl, g3, _, rfl, c, _, _, ((st.turn + 1) % (st.cells.length : Int)).toNat, rfl, rfl, same_upd hp _ _ k2, ?_, ?_⟩⟩
        · rw [List.length_map]
          unfold ixN
          rw [if_pos hp0, if_pos hp1]
        · refine ⟨_, _, rfl, rfl, _, rfl, ?_⟩
          have ef : takeF st n = (st.cells.getD ((st.turn + 1) % (st.cells.length : Int)).toNat 0 % n, ⟨st.cells.set ((st.turn + 1) % (st.cells.length : Int)).toNat (st.cells.getD ((st.turn + 1) % (st.cells.length : Int)).toNat 0 / n), st.turn + 1⟩) := by
            unfold takeF
            dsimp only
            rw [if_pos hc]
          rw [ef] at q
          have pc : c ≠ p := ne_of_none k2 hp
          have pa' : a ≠ p := ne_of_none k1 hp
          refine q _ _ [] (fun b o e nb => ?_) ⟨ne, ?_, ?_⟩ ?_ (fun _ z => nomatch z) List.nodup_nil (fun _ z => nomatch z) (.int _)
          · have hb : b ≠ c := by rintro rfl; exact nb (by simp [sA])
            rw [upd_ne hb]
            exact same_upd hp _ _ (x1 b o e nb)
          · rw [upd_ne ne, upd_ne pa']
            exact k1
          · rw [upd_same, List.map_set]
          · refine (hl1.upd (by intro vs e; rcases e with e | e <;> cases e; show 2 ≤ sizeLine; decide)).upd ?_
            intro vs e
            rcases e with e | e <;> cases e
            rw [List.length_set, List.length_map]
            have := hl _ _ (.inl h2)
            rwa [List.length_map] at this
      · have hc : ¬ 10 ^ 18 ≤ st.cells.getD ((st.turn + 1) % (st.cells.length : Int)).toNat 0 := fun z => hc (decide_eq_true z)
        have ef : takeF st n = (mixF (st.cells.getD ((st.turn + 1) % (st.cells.length : Int)).toNat 0) (st.turn + 1) n, ⟨st.cells, st.turn + 1⟩) := by
          unfold takeF
          dsimp only
          rw [if_neg hc]
        rw [ef] at q
        refine ⟨_, rfl, _, _, rfl, rfl, (by show (0 : Int) < _; decide), _, rfl, _, rfl, _, _, rfl, rfl, .inl ⟨by omega, by omega⟩, _, _, rfl, rfl, .inr ⟨by decide, by decide⟩, _, _, rfl, rfl, _, _, rfl, rfl, _, _, rfl, rfl, .inr ⟨by decide, by decide⟩, _, _, rfl, rfl, (by show (0 : Int) < _; decide), ?_⟩
        refine ⟨_, rfl, _, rfl, _, _, rfl, rfl, .inl ⟨?_, ?_⟩, _, _, rfl, rfl, (by show (0 : Int) < _; decide), ?_⟩
        · have := Int.emod_nonneg ((st.cells.getD ((st.turn + 1) % (st.cells.length : Int)).toNat 0 % 2147483629 + (st.turn + 1) * (st.turn + 1) * 7919 + 11) * 48271) (show (2147483647 : Int) ≠ 0 by decide)
          omega
        · have := Int.emod_lt_of_pos ((st.cells.getD ((st.turn + 1) % (st.cells.length : Int)).toNat 0 % 2147483629 + (st.turn + 1) * (st.turn + 1) * 7919 + 11) * 48271) (show (0 : Int) < 2147483647 by decide)
          omega
        refine ⟨_, rfl, _, rfl, _, _, rfl, rfl, .inr ⟨by decide, by decide⟩, _, _, rfl, rfl, _, _, rfl, rfl, .inr ⟨by decide, by decide⟩, _, _, rfl, rfl, (by show (0 : Int) < _; decide), _, _, rfl, rfl, ⟨by decide, by decide⟩, _, rfl, _, _, rfl, rfl, n0, ?_⟩
        exact q _ H1 [] x1 ⟨ne, k1, k2⟩ hl1 (fun _ z => nomatch z) List.nodup_nil (fun _ z => nomatch z) (.int _)


theorem ok_law_begin {f : Addr} {fd : FuncData} (F : Fun K "_law_begin" "_law_begin" s_law_begin f fd) (bl : Blt mg) : FnOk P w K mg base (L2.CX P w) 1 f fd ["_law_script"] (spBegin K) := by
  refine F.okX scLawBegin (fun vs H Q E h => ?_) (fun cdv A outer s H vs Q E hr h => ?_)
  · obtain ⟨a, ns, rfl, _⟩ := h
    rfl
  · obtain ⟨a, ns, rfl, hS, h63, hl, k⟩ := h
    refine ⟨_, pss_cons (ps_set (i := 1) scLawBegin.nd rfl (by first | exact Or.inl rfl | exact Or.inr rfl) (pe_callTy call_list_of (by rfl) bl.list boot_list (pa_cons (pe_slice sl_list (pv 0) po_none (po_some pe_int)) pa_nil)))
      (pss_cons (ps_if (pt_cmpR (op_eqD hr.units) (pv 1) (pe_lst pa_nil) (nomark _)) (pss_one (ps_set (i := 1) scLawBegin.nd rfl (by first | exact Or.inl rfl | exact Or.inr rfl) (pe_lst (pa_cons pe_int pa_nil)))) pss_nil)
      (pss_one (ps_ret (pe_disp (pps_cons pe_str (pv 1) (pps_cons pe_str pe_int pps_nil)) (by rfl) (by rfl) (fun z => by cases z) (by decide))))), ?_⟩
    have ecut : cutV (ns.map V.int) none (some 63) = ns.map V.int := by
      unfold cutV
      rw [HT.sIx_none, List.drop_zero, show ((63 : Int)) = ((63 : Nat) : Int) from rfl, HT.sIx_nat, List.length_map, Nat.sub_zero]
      exact List.take_of_length_le (by rw [List.length_map]; omega)
    refine ⟨_, rfl, _, rfl, a, _, rfl, hS, fun p hp => ?_⟩
    rw [ecut]
    have hz : (ns.map V.int).length ≤ sizeLine := by rw [List.length_map, sizeLine_eq]; omega
    refine ⟨p, _, rfl, .inl (SqL.of upd_same), fun l hlp => ?_⟩
    have hl1 : HLen (upd (upd H p (.lst (ns.map V.int))) l (.lst (ns.map V.int))) := (hl.upd (by intro vs e; rcases e with e | e <;> cases e; exact hz)).upd (by intro vs e; rcases e with e | e <;> cases e; exact hz)
    have fin : ∀ (c : Addr) (H3 : Hp), H3 c = some (.lst ((cellsF ns).map V.int)) → HLen H3 → tRet (tDisp [(tC (.str "cells"), tVar 1), (tC (.str "turn"), tC (.int 0))]) { nx := fun _ H' => Q .non H', rt := Q } [some (.ref a), some (.ref c)] H3 := fun c H3 hc hl3 => by
      intro d hd
      refine ⟨_, rfl, upd_same, [(.inr "cells", .ref c), (.inr "turn", .int 0)], rfl, by show 2 ≤ 15; decide, ?_⟩
      have dc : c ≠ d := ne_of_none hc hd
      rw [upd_upd]
      refine k d c _ dc.symm (by rw [upd_same]; rfl) (by rw [upd_ne dc]; exact hc) (hl3.upd (by intro vs e; rcases e with e | e <;> cases e))
    refine ⟨_, rfl, Nat.zero_le _, fun m hm => ?_⟩
    have lm : l ≠ m := ne_of_none upd_same hm
    refine ⟨.list (ns.map .int), .list [], .lst (SqL.of (by rw [upd_ne lm]; exact upd_same)) (dpInts ns), .lst (SqL.of upd_same) .nil, shaped_ints ns, by decide +kernel, _, rfl, ?_⟩
    have hl2 : HLen (upd (upd (upd H p (.lst (ns.map V.int))) l (.lst (ns.map V.int))) m (.lst [])) := hl1.upd (by intro vs e; rcases e with e | e <;> cases e; exact Nat.zero_le _)
    rw [eqv_nil ns]
    refine ite2 (fun hn => ?_) (fun hn => ?_)
    · have hn : ns = [] := of_decide_eq_true hn
      refine ⟨by show 1 ≤ sizeLine; decide, fun c hc => ?_⟩
      exact fin c _ (by rw [upd_same, hn]; rfl) (hl2.upd (by intro vs e; rcases e with e | e <;> cases e; show 1 ≤ sizeLine; decide))
    · have hn : ns ≠ [] := fun z => hn (decide_eq_true z)
      exact fin l _ (by rw [upd_ne lm, upd_same]; unfold cellsF; rw [if_neg hn]) hl2

theorem body_law_tree_net {f : Addr} (bl : Blt mg) (G__law_take : CalOk P w K mg base 1 "_law_take" 2 takeD) : BodyOk P w K mg base nLawTreeNet "_law_tree_net" s_law_tree_net f 1 Cm.g_law_tree_net := fun cdv A outer s H E S M hcl hr => by
  have tk : Takes (cxOf (L2.CX P w) P w K mg base nLawTreeNet "_law_tree_net" (defScope s_law_tree_net) f cdv A outer s H E) (fun cls d _ H' => E cls d H') := takes_of rfl rfl rfl rfl
  exact (ss_cons (es_set (i := 2) scLawTreeNet.nd rfl (by first | exact Or.inl rfl | exact Or.inr rfl) (ev_lst EM.nil)) (ss_cons (es_set (i := 3) scLawTreeNet.nd rfl (by first | exact Or.inl rfl | exact Or.inr rfl) (ev_lst EM.nil)) (ss_cons (es_for (fg := [4, 5]) (passes_of rfl) rfl (ei_range1 rfl bl.range (ev_bin op_sub opSub_S (pv 1) ev_int)) (eg_name (i := 4) scLawTreeNet.nd rfl (by first | exact Or.inl rfl | exact Or.inr rfl)) (ss_cons (es_set (i := 5) scLawTreeNet.nd rfl (by first | exact Or.inl rfl | exact Or.inr rfl) (ev_bt (call_min2 rfl) opMin2_S rfl bl.min boot_min (EA.cons (ev_bt call_lenA opLen_S rfl bl.len boot_len (EA.cons (pv 2) EA.nil)) (EA.cons (ev_ix (ix_any (hu_of hr)) opIxA_S (ev_lst (EM.cons ev_int (EM.cons ev_int (EM.cons ev_int (EM.cons ev_int (EM.cons ev_int (EM.cons ev_int EM.nil))))))) (ev_call G__law_take (hr.mono (by decide)) rfl hcl tk (EA.cons (pv 0) (EA.cons ev_int EA.nil))) (fun _ _ => rfl)) EA.nil)))) (ss_cons (es_me1 moApp_S (ps_expr (pe_bm PySem.F.plainAttrs_list PySem.F.slot_list_append PySem.F.type_list_append mt_append (pv 3) (pa_cons (ev_ty call_tuple_of opTuple_S rfl bl.tuple boot_tuple (EA.cons (ev_sl1 (pv 2) (ev_bin op_sub opSub_S (ev_bt call_lenA opLen_S rfl bl.len boot_len (EA.cons (pv 2) EA.nil)) (pv 5))) EA.nil)) pa_nil)))) (ss_one (es_set (i := 2) scLawTreeNet.nd rfl (by first | exact Or.inl rfl | exact Or.inr rfl) (ev_bin op_addA opAdd_S (ev_sl2 (pv 2) (ev_bin op_sub opSub_S (ev_bt call_lenA opLen_S rfl bl.len boot_len (EA.cons (pv 2) EA.nil)) (pv 5))) (ev_lst (EM.cons (ev_var (pv 4)) EM.nil)))))))) (ss_one (es_ret (ev_ty call_tuple_of opTuple_S rfl bl.tuple boot_tuple (EA.cons (ev_bin op_addA opAdd_S (pv 3) (ev_lst (EM.cons (ev_ty call_tuple_of opTuple_S rfl bl.tuple boot_tuple (EA.cons (pv 2) EA.nil)) EM.nil))) EA.nil)))))))
theorem body_law_some_needs {f : Addr} (bl : Blt mg) (G__law_take : CalOk P w K mg base 1 "_law_take" 2 takeD) : BodyOk P w K mg base nLawSomeNeeds "_law_some_needs" s_law_some_needs f 1 Cm.g_law_some_needs := fun cdv A outer s H E S M hcl hr => by
  have tk : Takes (cxOf (L2.CX P w) P w K mg base nLawSomeNeeds "_law_some_needs" (defScope s_law_some_needs) f cdv A outer s H E) (fun cls d _ H' => E cls d H') := takes_of rfl rfl rfl rfl
  exact (ss_cons (es_set (i := 2) scLawSomeNeeds.nd rfl (by first | exact Or.inl rfl | exact Or.inr rfl) (ev_lst EM.nil)) (ss_cons (es_for (fg := [3, 4]) (passes_of rfl) rfl (ei_range1 rfl bl.range (ev_call G__law_take (hr.mono (by decide)) rfl hcl tk (EA.cons (pv 0) (EA.cons ev_int EA.nil)))) (eg_name (i := 3) scLawSomeNeeds.nd rfl (by first | exact Or.inl rfl | exact Or.inr rfl)) (ss_cons (es_set (i := 4) scLawSomeNeeds.nd rfl (by first | exact Or.inl rfl | exact Or.inr rfl) (ev_ix (ix_any (hu_of hr)) opIxA_S (ev_lst (EM.cons (ev_bt (call_min2 rfl) opMin2_S rfl bl.min boot_min (EA.cons (pv 1) (EA.cons ev_int EA.nil))) (EM.cons (ev_var (pv 1)) EM.nil))) (ev_bin op_fdiv opFd_S (ev_call G__law_take (hr.mono (by decide)) rfl hcl tk (EA.cons (pv 0) (EA.cons ev_int EA.nil))) ev_int) (fun _ _ => rfl))) (ss_one (es_if (et_cmp op_gt opGt_S (nomark _) (pv 1) ev_int) (ss_one (es_me1 moApp_S (ps_expr (pe_bm PySem.F.plainAttrs_list PySem.F.slot_list_append PySem.F.type_list_append mt_append (pv 2) (pa_cons (ev_bin op_sub opSub_S (ev_bin op_sub opSub_S (pv 1) ev_int) (ev_call G__law_take (hr.mono (by decide)) rfl hcl tk (EA.cons (pv 0) (EA.cons (pv 4) EA.nil)))) pa_nil))))) ss_nil)))) (ss_one (es_ret (ev_ty call_tuple_of opTuple_S rfl bl.tuple boot_tuple (EA.cons (ev_sset rfl rfl bl.sorted rfl bl.set (pv 2)) EA.nil))))))
theorem body_law_net {f : Addr} (bl : Blt mg) (G__law_take : CalOk P w K mg base 1 "_law_take" 2 takeD) (G__law_tree_net : CalOk P w K mg base 2 "_law_tree_net" 2 Cm.d_law_tree_net) (G__law_some_needs : CalOk P w K mg base 2 "_law_some_needs" 2 Cm.d_law_some_needs) : BodyOk P w K mg base nLawNet "_law_net" s_law_net f 2 Cm.g_law_net := fun cdv A outer s H E S M hcl hr => by
  have tk : Takes (cxOf (L2.CX P w) P w K mg base nLawNet "_law_net" (defScope s_law_net) f cdv A outer s H E) (fun cls d _ H' => E cls d H') := takes_of rfl rfl rfl rfl
  exact (ss_cons (es_set (i := 2) scLawNet.nd rfl (by first | exact Or.inl rfl | exact Or.inr rfl) (ev_call G__law_take (hr.mono (by decide)) rfl hcl tk (EA.cons (pv 0) (EA.cons ev_int EA.nil)))) (ss_cons (es_set (i := 3) scLawNet.nd rfl (by first | exact Or.inl rfl | exact Or.inr rfl) (ev_bin op_addA opAdd_S ev_int (ev_call G__law_take (hr.mono (by decide)) rfl hcl tk (EA.cons (pv 0) (EA.cons ev_int EA.nil))))) (ss_cons (es_if (et_cmp (op_eqA hr.units) opEq_S (nomark _) (pv 2) ev_int) (ss_one (es_ret (ev_ty call_tuple_of opTuple_S rfl bl.tuple boot_tuple (EA.cons (ev_lcN (own := [("_law_k", 4)]) rfl scLawNet.nd (ei_range1 rfl bl.range (pv 1)) (blkOk_by (by first | (show blkC nLawNet (defScope s_law_net) _ _ = true; decide +kernel) | rfl)) (by decide) (fun _ _ _ _ _ => pg_name (i := 4) scLawNet.nd rfl (by first | exact Or.inl rfl | exact Or.inr rfl)) (fun _ _ _ _ _ => pts_nil) yes_imp (fun _ _ _ _ _ => (ev_tupRg2 rfl rfl bl.tuple rfl bl.range (ev_bt (call_max2 rfl) opMax2_S rfl bl.max boot_max (EA.cons ev_int (EA.cons (ev_bin op_sub opSub_S (pv 4) (pv 3)) EA.nil))) (pv 4)))) EA.nil)))) ss_nil) (ss_cons (es_if (et_cmp (op_eqA hr.units) opEq_S (nomark _) (pv 2) ev_int) (ss_cons (es_setLcN (own := [("_law_k", 4)]) rfl scLawNet.nd rfl rfl (sw_true rfl rfl rfl (by decide +kernel)) (ei_range1 rfl bl.range (pv 1)) (blkOk_by (by first | (show blkC nLawNet (defScope s_law_net) _ _ = true; decide +kernel) | rfl)) (by decide) (fun _ _ _ _ _ => pg_name (i := 4) scLawNet.nd rfl (by first | exact Or.inl rfl | exact Or.inr rfl)) (fun _ _ _ _ _ => pts_nil) yes_imp (fun _ _ _ _ _ => (ev_bin op_addA opAdd_S (ev_bin op_mulA opMul_S (ev_lst (EM.cons (ev_bin op_sub opSub_S (pv 4) (pv 3)) EM.nil)) (ev_ty call_int1 opInt_S rfl bl.int boot_int (EA.cons (ev_cmp op_ge opGe_S (nomark _) (pv 4) (pv 3)) EA.nil))) (ev_bin op_mulA opMul_S (ev_lst (EM.cons (ev_bin op_sub opSub_S (pv 4) ev_int) EM.nil)) (ev_ty call_int1 opInt_S rfl bl.int boot_int (EA.cons (ev_cmp op_gt opGt_S (nomark _) (ev_bin op_mod opMd_S (pv 4) (pv 3)) ev_int) EA.nil)))))) (ss_one (es_ret (ev_ty call_tuple_of opTuple_S rfl bl.tuple boot_tuple (EA.cons (ev_lcN (own := [("_law_needs", 6)]) rfl scLawNet.nd (ei_seq (ev_var (pv 5))) (blkOk_by (by first | (show blkC nLawNet (defScope s_law_net) _ _ = true; decide +kernel) | rfl)) (by decide) (fun _ _ _ _ _ => pg_name (i := 6) scLawNet.nd rfl (by first | exact Or.inl rfl | exact Or.inr rfl)) (fun _ _ _ _ _ => pts_nil) yes_imp (fun _ _ _ _ _ => (ev_ty call_tuple_of opTuple_S rfl bl.tuple boot_tuple (EA.cons (ev_sset rfl rfl bl.sorted rfl bl.set (pv 6)) EA.nil)))) EA.nil))))) ss_nil) (ss_cons (es_if (et_cmp (op_eqA hr.units) opEq_S (nomark _) (pv 2) ev_int) (ss_one (es_ret (ev_call G__law_tree_net (hr.mono (by decide)) rfl hcl tk (EA.cons (pv 0) (EA.cons (pv 1) EA.nil))))) ss_nil) (ss_cons (es_if (et_cmp (op_eqA hr.units) opEq_S (nomark _) (pv 2) ev_int) (ss_cons (es_set (i := 7) scLawNet.nd rfl (by first | exact Or.inl rfl | exact Or.inr rfl) (ev_bin op_fdiv opFd_S (pv 1) ev_int)) (ss_cons (es_setLcN (own := [("_law_k", 4)]) rfl scLawNet.nd rfl rfl (sw_true rfl rfl rfl (by decide +kernel)) (ei_range1 rfl bl.range (pv 1)) (blkOk_by (by first | (show blkC nLawNet (defScope s_law_net) _ _ = true; decide +kernel) | rfl)) (by decide) (fun _ _ _ _ _ => pg_name (i := 4) scLawNet.nd rfl (by first | exact Or.inl rfl | exact Or.inr rfl)) (fun _ _ _ _ _ => pts_nil) yes_imp (fun _ _ _ _ _ => (ev_call G__law_some_needs (hr.mono (by decide)) rfl hcl takes0 (EA.cons (pv 0) (EA.cons (ev_if (et_cmp op_lt opLt_S (nomark _) (pv 4) (pv 7)) (ev_var (pv 4)) (ev_bin op_sub opSub_S (pv 4) (pv 7))) EA.nil))))) (ss_one (es_ret (ev_ty call_tuple_of opTuple_S rfl bl.tuple boot_tuple (EA.cons (ev_lcT (own := [("_law_k", 4), ("_law_needs", 6)]) rfl scLawNet.nd (ei_enumL rfl bl.enumerate (ev_var (pv 5))) (blkOk_by (by first | (show blkC nLawNet (defScope s_law_net) _ _ = true; decide +kernel) | rfl)) (by decide) (fun _ _ _ _ _ => pg_tup rfl (EG.run scLawNet.nd (EG.cons rfl (by first | exact Or.inl rfl | exact Or.inr rfl) (EG.cons rfl (by first | exact Or.inl rfl | exact Or.inr rfl) EG.nil)))) (fun _ _ _ _ _ => pts_nil) yes_imp (fun _ _ _ _ _ => (ev_if (et_cmp op_lt opLt_S (nomark _) (pv 4) (pv 7)) (ev_var (pv 6)) (ev_ty call_tuple_of opTuple_S rfl bl.tuple boot_tuple (EA.cons (ev_lcN (own := [("_law_n", 8)]) rfl scLawNet.nd (ei_seq (ev_var (pv 6))) (blkOk_by (by first | (show blkC nLawNet (defScope s_law_net) _ _ = true; decide +kernel) | rfl)) (by decide) (fun _ _ _ _ _ => pg_name (i := 8) scLawNet.nd rfl (by first | exact Or.inl rfl | exact Or.inr rfl)) (fun _ _ _ _ _ => pts_nil) yes_imp (fun _ _ _ _ _ => (ev_bin op_addA opAdd_S (pv 8) (pv 7)))) EA.nil))))) EA.nil)))))) ss_nil) (ss_one (es_ret (ev_ty call_tuple_of opTuple_S rfl bl.tuple boot_tuple (EA.cons (ev_lcN (own := [("_law_k", 4)]) rfl scLawNet.nd (ei_range1 rfl bl.range (pv 1)) (blkOk_by (by first | (show blkC nLawNet (defScope s_law_net) _ _ = true; decide +kernel) | rfl)) (by decide) (fun _ _ _ _ _ => pg_name (i := 4) scLawNet.nd rfl (by first | exact Or.inl rfl | exact Or.inr rfl)) (fun _ _ _ _ _ => pts_nil) yes_imp (fun _ _ _ _ _ => (ev_call G__law_some_needs (hr.mono (by decide)) rfl hcl takes0 (EA.cons (pv 0) (EA.cons (pv 4) EA.nil))))) EA.nil))))))))))
theorem body_law_many {f : Addr} (bl : Blt mg) (G__law_take : CalOk P w K mg base 1 "_law_take" 2 takeD) : BodyOk P w K mg base nLawMany "_law_many" s_law_many f 1 Cm.g_law_many := fun cdv A outer s H E S M hcl hr => by
  have tk : Takes (cxOf (L2.CX P w) P w K mg base nLawMany "_law_many" (defScope s_law_many) f cdv A outer s H E) (fun cls d _ H' => E cls d H') := takes_of rfl rfl rfl rfl
  exact (ss_cons (es_set (i := 2) scLawMany.nd rfl (by first | exact Or.inl rfl | exact Or.inr rfl) (ev_call G__law_take (hr.mono (by decide)) rfl hcl tk (EA.cons (pv 0) (EA.cons ev_int EA.nil)))) (ss_cons (es_if (et_cmp (op_eqA hr.units) opEq_S (nomark _) (pv 2) ev_int) (ss_one (es_ret (ev_bin op_sub opSub_S (pv 1) (ev_call G__law_take (hr.mono (by decide)) rfl hcl tk (EA.cons (pv 0) (EA.cons (ev_bin op_fdiv opFd_S (pv 1) ev_int) EA.nil)))))) ss_nil) (ss_one (es_ret (ev_ix (ix_any (hu_of hr)) opIxA_S (ev_lst (EM.cons (ev_bin op_addA opAdd_S ev_int (ev_call G__law_take (hr.mono (by decide)) rfl hcl tk (EA.cons (pv 0) (EA.cons ev_int EA.nil)))) (EM.cons ev_int (EM.cons ev_int (EM.cons ev_int (EM.cons ev_int (EM.cons ev_int (EM.cons (ev_bin op_addA opAdd_S ev_int (ev_call G__law_take (hr.mono (by decide)) rfl hcl tk (EA.cons (pv 0) (EA.cons ev_int EA.nil)))) EM.nil)))))))) (ev_bin op_sub opSub_S (pv 2) ev_int) (fun _ _ => rfl))))))
theorem body_law_path_count {f : Addr} (bl : Blt mg) : BodyOk P w K mg base nLawPathCount "_law_path_count" s_law_path_count f 0 g_law_path_count := fun cdv A outer s H E S M hcl hr => by
  have tk : Takes (cxOf (L2.CX P w) P w K mg base nLawPathCount "_law_path_count" (defScope s_law_path_count) f cdv A outer s H E) (fun cls d _ H' => E cls d H') := takes_of rfl rfl rfl rfl
  exact (ss_cons (es_set (i := 2) scLawPathCount.nd rfl (by first | exact Or.inl rfl | exact Or.inr rfl) (ev_lst EM.nil)) (ss_cons (es_for (fg := [3]) (passes_of rfl) rfl (ei_seq (ev_var (pv 0))) (eg_name (i := 3) scLawPathCount.nd rfl (by first | exact Or.inl rfl | exact Or.inr rfl)) (ss_one (es_me1 moApp_S (ps_expr (pe_bm PySem.F.plainAttrs_list PySem.F.slot_list_append PySem.F.type_list_append mt_append (pv 2) (pa_cons (ev_bt (call_max2 rfl) opMax2_S rfl bl.max boot_max (EA.cons ev_int (EA.cons (ev_bt (cr_sum rfl) opSum_S rfl bl.sum boot_sum (EA.cons (ev_lcN (own := [("_law_need", 4)]) rfl scLawPathCount.nd (ei_seq (ev_var (pv 3))) (blkOk_by (by first | (show blkC nLawPathCount (defScope s_law_path_count) _ _ = true; decide +kernel) | rfl)) (by decide) (fun _ _ _ _ _ => pg_name (i := 4) scLawPathCount.nd rfl (by first | exact Or.inl rfl | exact Or.inr rfl)) (fun _ _ _ _ _ => pts_nil) yes_imp (fun _ _ _ _ _ => (ev_ix (ix_any (hu_of hr)) opIxA_S (pv 2) (pv 4) (fun _ _ => rfl)))) EA.nil)) EA.nil))) pa_nil)))))) (ss_one (es_ret (ev_ix (ix_any (hu_of hr)) opIxA_S (pv 2) (pv 1) (fun _ _ => rfl))))))
theorem body_all_needed {f : Addr} (bl : Blt mg) : BodyOk P w K mg base nAllNeeded "all_needed" s_all_needed f 0 Cm.g_all_needed := fun cdv A outer s H E S M hcl hr => by
  have tk : Takes (cxOf (L2.CX P w) P w K mg base nAllNeeded "all_needed" (defScope s_all_needed) f cdv A outer s H E) (fun cls d _ H' => E cls d H') := takes_of rfl rfl rfl rfl
  exact (ss_cons (es_set (i := 2) scAllNeeded.nd rfl (by first | exact Or.inl rfl | exact Or.inr rfl) (ev_bin op_mulA opMul_S (ev_lst (EM.cons ev_bl EM.nil)) (ev_bt call_lenA opLen_S rfl bl.len boot_len (EA.cons (pv 0) EA.nil)))) (ss_cons (es_for (fg := [3]) (passes_of rfl) rfl (ei_seq (ev_var (pv 1))) (eg_name (i := 3) scAllNeeded.nd rfl (by first | exact Or.inl rfl | exact Or.inr rfl)) (ss_one (es_seti (ps_asg ev_bl (pg_sub (pv 2) (ev_var (pv 3)) (set_any (hu_of hr))))))) (ss_cons (es_for (fg := [3, 4]) (passes_of rfl) rfl (ei_range3 rfl bl.range (ev_bin op_sub opSub_S (ev_bt call_lenA opLen_S rfl bl.len boot_len (EA.cons (pv 0) EA.nil)) ev_int) (ev_un un_neg opNeg_S ev_int) (ev_un un_neg opNeg_S ev_int)) (eg_name (i := 3) scAllNeeded.nd rfl (by first | exact Or.inl rfl | exact Or.inr rfl)) (ss_one (es_if (et_val (ev_ix (ix_any (hu_of hr)) opIxA_S (pv 2) (pv 3) (fun _ _ => rfl))) (ss_one (es_for (fg := [4]) (passes_of rfl) rfl (ei_seq (ev_ix (ix_any (hu_of hr)) opIxA_S (pv 0) (pv 3) (fun _ _ => rfl))) (eg_name (i := 4) scAllNeeded.nd rfl (by first | exact Or.inl rfl | exact Or.inr rfl)) (ss_one (es_seti (ps_asg ev_bl (pg_sub (pv 2) (ev_var (pv 4)) (set_any (hu_of hr)))))))) ss_nil))) (ss_one (es_ret (ev_lcN (own := [("work", 3)]) rfl scAllNeeded.nd (ei_range1 rfl bl.range (ev_bt call_lenA opLen_S rfl bl.len boot_len (EA.cons (pv 0) EA.nil))) (blkOk_by (by first | (show blkC nAllNeeded (defScope s_all_needed) _ _ = true; decide +kernel) | rfl)) (by decide) (fun _ _ _ _ _ => pg_name (i := 3) scAllNeeded.nd rfl (by first | exact Or.inl rfl | exact Or.inr rfl)) (fun _ _ _ _ _ => pts_one (et_val (ev_ix (ix_any (hu_of hr)) opIxA_S (pv 2) (pv 3) (fun _ _ => rfl)))) id_imp (fun _ _ _ _ _ => (ev_var (pv 3)))))))))
theorem body_many_paths {f : Addr} (bl : Blt mg) (G_all_needed : CalOk P w K mg base 1 "all_needed" 2 Cm.d_all_needed) : BodyOk P w K mg base nManyPaths "many_paths" s_many_paths f 1 g_many_paths := fun cdv A outer s H E S M hcl hr => by
  have tk : Takes (cxOf (L2.CX P w) P w K mg base nManyPaths "many_paths" (defScope s_many_paths) f cdv A outer s H E) (fun cls d _ H' => E cls d H') := takes_of rfl rfl rfl rfl
  exact (ss_cons (es_set (i := 2) scManyPaths.nd rfl (by first | exact Or.inl rfl | exact Or.inr rfl) ev_newK) (ss_cons (es_for (fg := [3]) (passes_of rfl) rfl (ei_seq (ev_call G_all_needed (hr.mono (by decide)) rfl hcl tk (EA.cons (pv 0) (EA.cons (ev_tup (EM.cons (ev_var (pv 1)) EM.nil)) EA.nil)))) (eg_name (i := 3) scManyPaths.nd rfl (by first | exact Or.inl rfl | exact Or.inr rfl)) (ss_one (es_seti (ps_asg (ev_bt (call_max2 rfl) opMax2_S rfl bl.max boot_max (EA.cons ev_int (EA.cons (ev_bt (cr_sum rfl) opSum_S rfl bl.sum boot_sum (EA.cons (ev_lcN (own := [("need", 4)]) rfl scManyPaths.nd (ei_seq (ev_ix (ix_any (hu_of hr)) opIxA_S (pv 0) (pv 3) (fun _ _ => rfl))) (blkOk_by (by first | (show blkC nManyPaths (defScope s_many_paths) _ _ = true; decide +kernel) | rfl)) (by decide) (fun _ _ _ _ _ => pg_name (i := 4) scManyPaths.nd rfl (by first | exact Or.inl rfl | exact Or.inr rfl)) (fun _ _ _ _ _ => pts_nil) yes_imp (fun _ _ _ _ _ => (ev_ix (ix_any (hu_of hr)) opIxA_S (pv 2) (pv 4) (fun _ _ => rfl)))) EA.nil)) EA.nil))) (pg_sub (pv 2) (ev_var (pv 3)) (set_any (hu_of hr))))))) (ss_one (es_ret (ev_ix (ix_any (hu_of hr)) opIxA_S (pv 2) (pv 1) (fun _ _ => rfl))))))
theorem body_all_paths {f : Addr} (bl : Blt mg) (G_many_paths : CalOk P w K mg base 2 "many_paths" 2 d_many_paths) (xf : XFacts K mg) {t_MOST_PATHS : Tok} (c_MOST_PATHS : mg "MOST_PATHS" = some (.int 300 t_MOST_PATHS)) : BodyOk P w K mg base nAllPaths "all_paths" s_all_paths f 2 g_all_paths := fun cdv A outer s H E S M hcl hr => by
  have tk : Takes (cxOf (L2.CX P w) P w K mg base nAllPaths "all_paths" (defScope s_all_paths) f cdv A outer s H E) (fun cls d _ H' => E cls d H') := takes_of rfl rfl rfl rfl
  exact (ss_cons (es_if (et_cmp op_gt opGt_S (nomark _) (ev_call G_many_paths (hr.mono (by decide)) rfl hcl tk (EA.cons (pv 0) (EA.cons (pv 1) EA.nil))) (ev_gint rfl c_MOST_PATHS)) (ss_one (es_raise0 xf.x0_TooMany hcl tk rfl rfl)) ss_nil) (ss_cons (es_set (i := 2) scAllPaths.nd rfl (by first | exact Or.inl rfl | exact Or.inr rfl) (ev_lst EM.nil)) (ss_cons (es_set (i := 3) scAllPaths.nd rfl (by first | exact Or.inl rfl | exact Or.inr rfl) (ev_lst (EM.cons (ev_tup (EM.cons (ev_var (pv 1)) EM.nil)) EM.nil))) (ss_cons (es_while (fg := [4]) 1000000 (passes_of rfl) (et_cmp op_gt opGt_S (nomark _) (ev_bt call_lenA opLen_S rfl bl.len boot_len (EA.cons (pv 3) EA.nil)) ev_int) (ss_cons (es_set (i := 4) scAllPaths.nd rfl (by first | exact Or.inl rfl | exact Or.inr rfl) (ev_pop (pe_bm0 PySem.F.plainAttrs_list PySem.F.slot_list_pop PySem.F.type_list_pop mt_pop (pv 3)))) (ss_cons (es_if (et_cmp (op_eqA hr.units) opEq_S (nomark _) (ev_bt call_lenA opLen_S rfl bl.len boot_len (EA.cons (ev_ix (ix_any (hu_of hr)) opIxA_S (pv 0) (ev_ix (ix_any (hu_of hr)) opIxA_S (pv 4) ev_int (fun _ _ => rfl)) (fun _ _ => rfl)) EA.nil)) ev_int) (ss_one (es_me1 moApp_S (ps_expr (pe_bm PySem.F.plainAttrs_list PySem.F.slot_list_append PySem.F.type_list_append mt_append (pv 2) (pa_cons (ev_var (pv 4)) pa_nil))))) ss_nil) (ss_one (es_me1 moExt_S (ps_expr (pe_bm PySem.F.plainAttrs_list PySem.F.slot_list_extend PySem.F.type_list_extend mt_extA (pv 3) (pa_cons (ev_lcN (own := [("need", 5)]) rfl scAllPaths.nd (ei_seq (ev_ix (ix_any (hu_of hr)) opIxA_S (pv 0) (ev_ix (ix_any (hu_of hr)) opIxA_S (pv 4) ev_int (fun _ _ => rfl)) (fun _ _ => rfl))) (blkOk_by (by first | (show blkC nAllPaths (defScope s_all_paths) _ _ = true; decide +kernel) | rfl)) (by decide) (fun _ _ _ _ _ => pg_name (i := 5) scAllPaths.nd rfl (by first | exact Or.inl rfl | exact Or.inr rfl)) (fun _ _ _ _ _ => pts_nil) yes_imp (fun _ _ _ _ _ => (ev_bin op_addA opAdd_S (ev_tup (EM.cons (ev_var (pv 5)) EM.nil)) (pv 4)))) pa_nil)))))))) (ss_one (es_ret (ev_bt cr_sortLT opSortT_S rfl bl.sorted boot_sorted (EA.cons (pv 2) EA.nil))))))))
theorem body_law_told {f : Addr} (bl : Blt mg) (G_all_paths : CalOk P w K mg base 3 "all_paths" 2 d_all_paths) (xf : XFacts K mg) : BodyOk P w K mg base nLawTold "_law_told" s_law_told f 3 g_law_told := fun cdv A outer s H E S M hcl hr => by
  have tk : Takes (cxOf (L2.CX P w) P w K mg base nLawTold "_law_told" (defScope s_law_told) f cdv A outer s H E) (fun cls d _ H' => E cls d H') := takes_of rfl rfl rfl rfl
  exact (ss_cons (es_asT (ev_tup (EM.cons ev_non (EM.cons ev_str EM.nil))) (eg_tup scLawTold.nd rfl (EG.cons rfl (by first | exact Or.inl rfl | exact Or.inr rfl) (EG.cons rfl (by first | exact Or.inl rfl | exact Or.inr rfl) EG.nil)))) (ss_cons (es_tryAs xf.ext_RoomError hcl rfl rfl scLawTold.nd rfl rfl ⟨rfl, by decide, .inl xf.g_RoomError⟩ tk (fun W pn xe tkT pO => (ss_one (es_set (i := 2) scLawTold.nd rfl (by first | exact Or.inl rfl | exact Or.inr rfl) (ev_call G_all_paths (hr.mono (by decide)) rfl hcl tkT (EA.cons (pv 0) (EA.cons (pv 1) EA.nil)))))) (fun xx a oe pn H0 Px => (ss_cons (es_set (i := 5) scLawTold.nd rfl (by first | exact Or.inl rfl | exact Or.inr rfl) (ev_or (ev_xisT Px rfl (.cons rfl xf.g_BadRow (.cons rfl xf.g_Barred (.cons rfl xf.g_NoMove (.cons rfl xf.g_NoTree ClsEs.nil)))) xf.its_BadRow_Barred_NoMove_NoTree xf.xc rfl bl.isinstance (pv 4)) (ev_one (ev_not (ev_xisV Px rfl xf.it_ValueError xf.xc rfl bl.isinstance rfl bl.ValueError (pv 4)))))) (ss_one (es_set (i := 3) scLawTold.nd rfl (by first | exact Or.inl rfl | exact Or.inr rfl) (ev_if (et_w (ew_and (et_val (ev_xis Px rfl xf.it_TooMany xf.xc rfl bl.isinstance rfl xf.g_TooMany (pv 4))) (ew_one_and (et_not (et_val (ev_var (pv 5))))))) ev_str ev_str)))))) (ss_one (es_ret (ev_tup (EM.cons (ev_move (pv 2)) (EM.cons (ev_move (pv 3)) EM.nil)))))))
theorem body_law_paths {f : Addr} (bl : Blt mg) : BodyOk P w K mg base nLawPaths "_law_paths" s_law_paths f 0 g_law_paths := fun cdv A outer s H E S M hcl hr => by
  have tk : Takes (cxOf (L2.CX P w) P w K mg base nLawPaths "_law_paths" (defScope s_law_paths) f cdv A outer s H E) (fun cls d _ H' => E cls d H') := takes_of rfl rfl rfl rfl
  exact (ss_cons (es_set (i := 2) scLawPaths.nd rfl (by first | exact Or.inl rfl | exact Or.inr rfl) (ev_lst EM.nil)) (ss_cons (es_set (i := 3) scLawPaths.nd rfl (by first | exact Or.inl rfl | exact Or.inr rfl) (ev_lst (EM.cons (ev_tup (EM.cons (ev_var (pv 1)) EM.nil)) EM.nil))) (ss_cons (es_while (fg := [4]) 1000000 (passes_of rfl) (et_cmp (op_neA hr.units) opNe_S (nomark _) (pv 3) (ev_lst EM.nil)) (ss_cons (es_set (i := 4) scLawPaths.nd rfl (by first | exact Or.inl rfl | exact Or.inr rfl) (ev_pop (pe_bm0 PySem.F.plainAttrs_list PySem.F.slot_list_pop PySem.F.type_list_pop mt_pop (pv 3)))) (ss_cons (es_if (et_cmp (op_eqA hr.units) opEq_S (nomark _) (ev_ix (ix_any (hu_of hr)) opIxA_S (pv 0) (ev_ix (ix_any (hu_of hr)) opIxA_S (pv 4) ev_int (fun _ _ => rfl)) (fun _ _ => rfl)) (ev_tup EM.nil)) (ss_one (es_me1 moApp_S (ps_expr (pe_bm PySem.F.plainAttrs_list PySem.F.slot_list_append PySem.F.type_list_append mt_append (pv 2) (pa_cons (ev_var (pv 4)) pa_nil))))) ss_nil) (ss_one (es_me1 moExt_S (ps_expr (pe_bm PySem.F.plainAttrs_list PySem.F.slot_list_extend PySem.F.type_list_extend mt_extA (pv 3) (pa_cons (ev_lcN (own := [("_law_need", 5)]) rfl scLawPaths.nd (ei_seq (ev_ix (ix_any (hu_of hr)) opIxA_S (pv 0) (ev_ix (ix_any (hu_of hr)) opIxA_S (pv 4) ev_int (fun _ _ => rfl)) (fun _ _ => rfl))) (blkOk_by (by first | (show blkC nLawPaths (defScope s_law_paths) _ _ = true; decide +kernel) | rfl)) (by decide) (fun _ _ _ _ _ => pg_name (i := 5) scLawPaths.nd rfl (by first | exact Or.inl rfl | exact Or.inr rfl)) (fun _ _ _ _ _ => pts_nil) yes_imp (fun _ _ _ _ _ => (ev_bin op_addA opAdd_S (ev_tup (EM.cons (ev_var (pv 5)) EM.nil)) (pv 4)))) pa_nil)))))))) (ss_one (es_ret (ev_bt cr_sortLT opSortT_S rfl bl.sorted boot_sorted (EA.cons (pv 2) EA.nil)))))))
theorem body_law_same {f : Addr} (k : Nat) (me : Den) (bl : Blt mg) (G__law_same : CalOk P w K mg base (0 + k) "_law_same" 2 me) : BodyOk P w K mg base nLawSame "_law_same" s_law_same f (0 + k) (Cm.g_law_same me) := fun cdv A outer s H E S M hcl hr => by
  have tk : Takes (cxOf (L2.CX P w) P w K mg base nLawSame "_law_same" (defScope s_law_same) f cdv A outer s H E) (fun cls d _ H' => E cls d H') := takes_of rfl rfl rfl rfl
  exact (ss_cons (es_if (et_cmp op_isN opIsN_S (nomark _) (pv 1) ev_non) (ss_one (es_ret (ev_cmp op_isN opIsN_S (nomark _) (pv 0) ev_non))) ss_nil) (ss_cons (es_if (et_w (ew_or (et_val (ev_isi .list rfl bl.isinstance rfl bl.list (by decide +kernel) (pv 1))) (ew_one_or (et_val (ev_isi .tuple rfl bl.isinstance rfl bl.tuple (by decide +kernel) (pv 1)))))) (ss_cons (es_if (et_cmp (op_neA hr.units) opNe_S (nomark _) (ev_isi .list rfl bl.isinstance rfl bl.list (by decide +kernel) (pv 0)) (ev_isi .list rfl bl.isinstance rfl bl.list (by decide +kernel) (pv 1))) (ss_one (es_ret ev_bl)) ss_nil) (ss_cons (es_if (et_w (ew_or (et_cmp (op_neA hr.units) opNe_S (nomark _) (ev_isi .tuple rfl bl.isinstance rfl bl.tuple (by decide +kernel) (pv 0)) (ev_isi .tuple rfl bl.isinstance rfl bl.tuple (by decide +kernel) (pv 1))) (ew_one_or (et_cmp (op_neA hr.units) opNe_S (nomark _) (ev_bt call_lenA opLen_S rfl bl.len boot_len (EA.cons (pv 0) EA.nil)) (ev_bt call_lenA opLen_S rfl bl.len boot_len (EA.cons (pv 1) EA.nil)))))) (ss_one (es_ret ev_bl)) ss_nil) (ss_one (es_ret (ev_bt (cr_all rfl) opAll_S rfl bl.all boot_all (EA.cons (ev_lcT (own := [("_law_one", 2), ("_law_other", 3)]) rfl scLawSame.nd (ei_zip rfl bl.zip (ev_var (pv 0)) (ev_var (pv 1))) (blkOk_by (by first | (show blkC nLawSame (defScope s_law_same) _ _ = true; decide +kernel) | rfl)) (by decide) (fun _ _ _ _ _ => pg_tup rfl (EG.run scLawSame.nd (EG.cons rfl (by first | exact Or.inl rfl | exact Or.inr rfl) (EG.cons rfl (by first | exact Or.inl rfl | exact Or.inr rfl) EG.nil)))) (fun _ _ _ _ _ => pts_nil) yes_imp (fun _ _ _ _ _ => (ev_call G__law_same hr rfl hcl takes0 (EA.cons (pv 2) (EA.cons (pv 3) EA.nil))))) EA.nil)))))) ss_nil) (ss_cons (es_if (et_val (ev_isi .str rfl bl.isinstance rfl bl.str (by decide +kernel) (pv 1))) (ss_one (es_ret (ev_and (ev_isi .str rfl bl.isinstance rfl bl.str (by decide +kernel) (pv 0)) (ev_one (ev_cmp (op_eqA hr.units) opEq_S (nomark _) (pv 0) (pv 1)))))) ss_nil) (ss_one (es_ret (ev_and (ev_isi .int rfl bl.isinstance rfl bl.int (by decide +kernel) (pv 0)) (ev_and (ev_not (ev_isi .bool rfl bl.isinstance rfl bl.bool (by decide +kernel) (pv 0))) (ev_one (ev_cmp (op_eqA hr.units) opEq_S (nomark _) (pv 0) (pv 1))))))))))
theorem body_law_right {f : Addr} (bl : Blt mg) (G__law_path_count : CalOk P w K mg base 1 "_law_path_count" 2 d_law_path_count) (G__law_told : CalOk P w K mg base 4 "_law_told" 2 d_law_told) (G__law_paths : CalOk P w K mg base 1 "_law_paths" 2 d_law_paths) (G__law_same : CalOk P w K mg base 41 "_law_same" 2 Cm.d_law_same) : BodyOk P w K mg base nLawRight "_law_right" s_law_right f 41 g_law_right := fun cdv A outer s H E S M hcl hr => by
  have tk : Takes (cxOf (L2.CX P w) P w K mg base nLawRight "_law_right" (defScope s_law_right) f cdv A outer s H E) (fun cls d _ H' => E cls d H') := takes_of rfl rfl rfl rfl
  exact (ss_cons (es_if (et_cmp op_gt opGt_S (nomark _) (ev_call G__law_path_count (hr.mono (by decide)) rfl hcl tk (EA.cons (pv 0) (EA.cons (pv 1) EA.nil))) ev_int) (ss_one (es_ret (ev_cmp (op_eqA hr.units) opEq_S (nomark _) (ev_call G__law_told (hr.mono (by decide)) rfl hcl tk (EA.cons (pv 0) (EA.cons (pv 1) EA.nil))) (ev_tup (EM.cons ev_non (EM.cons ev_str EM.nil)))))) ss_nil) (ss_cons (es_set (i := 2) scLawRight.nd rfl (by first | exact Or.inl rfl | exact Or.inr rfl) (ev_call G__law_paths (hr.mono (by decide)) rfl hcl tk (EA.cons (pv 0) (EA.cons (pv 1) EA.nil)))) (ss_cons (es_for (fg := [3, 4, 5]) (passes_of rfl) rfl (ei_range1 rfl bl.range ev_int) (eg_name (i := 3) scLawRight.nd rfl (by first | exact Or.inl rfl | exact Or.inr rfl)) (ss_cons (es_asT (ev_call G__law_told (hr.mono (by decide)) rfl hcl tk (EA.cons (pv 0) (EA.cons (pv 1) EA.nil))) (eg_tupO scLawRight.nd rfl (EG.cons rfl (by first | exact Or.inl rfl | exact Or.inr rfl) (EG.cons rfl (by first | exact Or.inl rfl | exact Or.inr rfl) EG.nil)))) (ss_cons (es_if (et_w (ew_or (et_cmp (op_neA hr.units) opNe_S (nomark _) (pv 5) ev_str) (ew_one_or (et_not (et_val (ev_call G__law_same (hr.mono (by decide)) rfl hcl tk (EA.cons (pv 4) (EA.cons (pv 2) EA.nil)))))))) (ss_one (es_ret ev_bl)) ss_nil) (ss_one (es_me0 moRev_S (ps_expr (pe_bm0 PySem.F.plainAttrs_list PySem.F.slot_list_reverse PySem.F.type_list_reverse mt_reverse (pv 4)))))))) (ss_one (es_ret ev_bl)))))
theorem body_law {f : Addr} {cdv : Value} {A : Around} {outer : List Env} {s : Shared} {H : Hp} {E : XK} (H0 : Hp) (rs : Option (Addr × Addr)) (M : List Addr) (tk : Takes (cxOf (L2.CX P w) P w K mg base nLaw "law" (defScope s_law) f cdv A outer s H E) (fun cls d _ H' => E cls d H')) (hr : Room 42 (A.deeper (envOfC "law" (defScope s_law) s.heap.objs.size f cdv))) (bl : Blt mg) (G__law_net : CalOk P w K mg base 3 "_law_net" 2 Cm.d_law_net) (G__law_many : CalOk P w K mg base 2 "_law_many" 2 Cm.d_law_many) (G__law_take : CalOk P w K mg base 1 "_law_take" 2 takeD) (G__law_right : CalOk P w K mg base 42 "_law_right" 2 d_law_right) : PSs (cxOf (L2.CX P w) P w K mg base nLaw "law" (defScope s_law) f cdv A outer s H E) (defBody s_law).tail (cS ⟨H0, ⟨rs, clsAt K⟩, M, fun cls d _ H' => E cls d H', fun _ => none⟩ g_law) := by
  have hcl : clsAt K = clsAt K := rfl
  exact (ss_cons (es_for (fg := [2, 3, 4]) (passes_of rfl) rfl (ei_range1 rfl bl.range ev_int) (eg_name (i := 2) scLaw.nd rfl (by first | exact Or.inl rfl | exact Or.inr rfl)) (ss_cons (es_set (i := 3) scLaw.nd rfl (by first | exact Or.inl rfl | exact Or.inr rfl) (ev_call G__law_net (hr.mono (by decide)) rfl hcl tk (EA.cons (pv 1) (EA.cons (ev_call G__law_many (hr.mono (by decide)) rfl hcl tk (EA.cons (pv 1) (EA.cons (ev_ix (ix_any (hu_of hr)) opIxA_S (ev_lst (EM.cons ev_int (EM.cons ev_int EM.nil))) (ev_ty call_int1 opInt_S rfl bl.int boot_int (EA.cons (ev_cmp (op_eqA hr.units) opEq_S (nomark _) (pv 2) ev_int) EA.nil)) (fun _ _ => rfl)) EA.nil))) EA.nil)))) (ss_one (es_for (fg := [4]) (passes_of rfl) rfl (ei_seq (ev_fz (ev_lst (EM.cons (ev_bin op_sub opSub_S (ev_bt call_lenA opLen_S rfl bl.len boot_len (EA.cons (pv 3) EA.nil)) ev_int) (EM.cons (ev_call G__law_take (hr.mono (by decide)) rfl hcl tk (EA.cons (pv 1) (EA.cons (ev_bt call_lenA opLen_S rfl bl.len boot_len (EA.cons (pv 3) EA.nil)) EA.nil))) EM.nil))))) (eg_name (i := 4) scLaw.nd rfl (by first | exact Or.inl rfl | exact Or.inr rfl)) (ss_one (es_if (et_not (et_val (ev_call G__law_right (hr.mono (by decide)) rfl hcl tk (EA.cons (pv 3) (EA.cons (pv 4) EA.nil))))) (ss_one (es_ret ev_bl)) ss_nil)))))) (ss_cons (es_set (i := 5) scLaw.nd rfl (by first | exact Or.inl rfl | exact Or.inr rfl) (ev_bin op_addA opAdd_S ev_int (ev_call G__law_take (hr.mono (by decide)) rfl hcl tk (EA.cons (pv 1) (EA.cons ev_int EA.nil))))) (ss_cons (es_if (et_not (et_val (ev_call G__law_right (hr.mono (by decide)) rfl hcl tk (EA.cons (ev_ty call_tuple_of opTuple_S rfl bl.tuple boot_tuple (EA.cons (ev_bin op_addA opAdd_S (ev_bin op_mulA opMul_S (ev_lst (EM.cons (ev_tup EM.nil) EM.nil)) (pv 5)) (ev_lst (EM.cons (ev_tupRg1 rfl rfl bl.tuple rfl bl.range (pv 5)) EM.nil))) EA.nil)) (EA.cons (pv 5) EA.nil))))) (ss_one (es_ret ev_bl)) ss_nil) (ss_cons (es_if (et_not (et_val (ev_call G__law_right (hr.mono (by decide)) rfl hcl tk (EA.cons (ev_ty call_tuple_of opTuple_S rfl bl.tuple boot_tuple (EA.cons (ev_bin op_addA opAdd_S (ev_bin op_addA opAdd_S (ev_bin op_mulA opMul_S (ev_lst (EM.cons (ev_tup EM.nil) EM.nil)) ev_int) (ev_bin op_mulA opMul_S (ev_lst (EM.cons (ev_tupRg1 rfl rfl bl.tuple rfl bl.range ev_int) EM.nil)) ev_int)) (ev_lst (EM.cons (ev_tupRg2 rfl rfl bl.tuple rfl bl.range ev_int ev_int) EM.nil))) EA.nil)) (EA.cons ev_int EA.nil))))) (ss_one (es_ret ev_bl)) ss_nil) (ss_cons (es_set (i := 6) scLaw.nd rfl (by first | exact Or.inl rfl | exact Or.inr rfl) (ev_bin op_addA opAdd_S ev_int (ev_call G__law_take (hr.mono (by decide)) rfl hcl tk (EA.cons (pv 1) (EA.cons ev_int EA.nil))))) (ss_cons (es_set (i := 5) scLaw.nd rfl (by first | exact Or.inl rfl | exact Or.inr rfl) (ev_ix (ix_any (hu_of hr)) opIxA_S (ev_lst (EM.cons ev_int (EM.cons ev_int (EM.cons ev_int (EM.cons ev_int (EM.cons ev_int (EM.cons ev_int (EM.cons ev_int (EM.cons ev_int (EM.cons ev_int EM.nil)))))))))) (ev_call G__law_take (hr.mono (by decide)) rfl hcl tk (EA.cons (pv 1) (EA.cons ev_int EA.nil))) (fun _ _ => rfl))) (ss_one (es_ret (ev_call G__law_right (hr.mono (by decide)) rfl hcl tk (EA.cons (ev_ty call_tuple_of opTuple_S rfl bl.tuple boot_tuple (EA.cons (ev_lcN (own := [("_law_k", 7)]) rfl scLaw.nd (ei_range1 rfl bl.range (pv 5)) (blkOk_by (by first | (show blkC nLaw (defScope s_law) _ _ = true; decide +kernel) | rfl)) (by decide) (fun _ _ _ _ _ => pg_name (i := 7) scLaw.nd rfl (by first | exact Or.inl rfl | exact Or.inr rfl)) (fun _ _ _ _ _ => pts_nil) yes_imp (fun _ _ _ _ _ => (ev_tupRg2 rfl rfl bl.tuple rfl bl.range (ev_bt (call_max2 rfl) opMax2_S rfl bl.max boot_max (EA.cons ev_int (EA.cons (ev_bin op_sub opSub_S (pv 7) (pv 6)) EA.nil))) (pv 7)))) EA.nil)) (EA.cons (ev_bin op_sub opSub_S (pv 5) ev_int) EA.nil)))))))))))

theorem ok_law {f fB : Addr} {fd fdB : FuncData} (F : Fun K "law" "law" s_law f fd) (FB : Fun K "_law_begin" "_law_begin" s_law_begin fB fdB) (mB : mg "_law_begin" = some (.ref fB)) (bB : Binds K fdB ["_law_script"] []) (bl : Blt mg)  (G__law_net : CalOk P w K mg base 3 "_law_net" 2 Cm.d_law_net) (G__law_many : CalOk P w K mg base 2 "_law_many" 2 Cm.d_law_many) (G__law_take : CalOk P w K mg base 1 "_law_take" 2 takeD) (G__law_right : CalOk P w K mg base 42 "_law_right" 2 d_law_right) : FnOk P w K mg base (L2.CX P w) (42 + 1) f fd ["_law_script"] (spLaw K) := by
  have GB := ok_law_begin (P := P) (w := w) (base := base) FB bl
  refine F.okX scLaw (fun vs H Q E h => ?_) (fun cdv A outer s H vs Q E hr h => ?_)
  · obtain ⟨a, ns, rfl, _⟩ := h
    rfl
  · obtain ⟨a, ns, rfl, hS, h63, hl, k⟩ := h
    have tk0 : Takes (cxOf (L2.CX P w) P w K mg base nLaw "law" (defScope s_law) f cdv A outer s H E) (fun cls d _ H' => E cls d H') := takes_of rfl rfl rfl rfl
    refine ⟨_, pss_cons (ps_set (i := 1) scLaw.nd rfl (by first | exact Or.inl rfl | exact Or.inr rfl) (pe_callS GB (hr.mono (by decide)) rfl mB FB.kp bB (fun σ => passAt tk0 σ) (pa_cons (pv 0) pa_nil)))
      (law_rest (cl := clsAt K) (W := fun cls d _ H' => E cls d H') fun H0 rs M => body_law H0 rs M tk0 hr bl G__law_net G__law_many G__law_take G__law_right), ?_⟩
    refine ⟨_, rfl, a, ns, rfl, hS, h63, hl, fun x c H' ne h1 h2 hl' => ?_⟩
    refine ⟨H', some (x, c), [x, c], [], _, [], law_start (N := nLaw) (k := 6) rfl ne h1 h2 hl', ?_⟩
    obtain ⟨ρ, e⟩ := h_law ns h63
    rw [e]
    intro v σ H2 F2 r2
    cases bl_of r2
    exact k H2

end
theorem all_mk {l : PySem.W.OpenLaw} {w : World} {K : PySem.W.Frag} {h : Heap} {mg : Str → Option Value} {fa : Addr} (X : K.In h) (G : h.Ns mainGlobals mg) (hfa : mg "law" = some (.ref fa))
    {od0 an0 : Option Addr} {sl0 : Array (Option Value)} {oc0 kV0 dc0 pm0 cd0 ct0 : Value} {f0 : Addr} (a0 : PySem.W.nsIn K mainGlobals "_law_take" = some (some (.ref f0))) (l0 : K.lookup f0 = some ⟨oc0, od0, .func (PySem.W.fnOf "_law_take" "_law_take" (defArgs s_law_take) (defBody s_law_take) (defScope s_law_take) .none kV0 dc0 pm0 an0 cd0 ct0), sl0⟩) (c0 : PySem.W.codeIn K cd0 "_law_take" = true) (k0 : PySem.W.keepIn K (.ref f0) = true)
    {od1 an1 : Option Addr} {sl1 : Array (Option Value)} {oc1 kV1 dc1 pm1 cd1 ct1 : Value} {f1 : Addr} (a1 : PySem.W.nsIn K mainGlobals "_law_begin" = some (some (.ref f1))) (l1 : K.lookup f1 = some ⟨oc1, od1, .func (PySem.W.fnOf "_law_begin" "_law_begin" (defArgs s_law_begin) (defBody s_law_begin) (defScope s_law_begin) .none kV1 dc1 pm1 an1 cd1 ct1), sl1⟩) (c1 : PySem.W.codeIn K cd1 "_law_begin" = true) (k1 : PySem.W.keepIn K (.ref f1) = true)
    {od2 an2 : Option Addr} {sl2 : Array (Option Value)} {oc2 kV2 dc2 pm2 cd2 ct2 : Value} {f2 : Addr} (a2 : PySem.W.nsIn K mainGlobals "_law_tree_net" = some (some (.ref f2))) (l2 : K.lookup f2 = some ⟨oc2, od2, .func (PySem.W.fnOf "_law_tree_net" "_law_tree_net" (defArgs s_law_tree_net) (defBody s_law_tree_net) (defScope s_law_tree_net) .none kV2 dc2 pm2 an2 cd2 ct2), sl2⟩) (c2 : PySem.W.codeIn K cd2 "_law_tree_net" = true) (k2 : PySem.W.keepIn K (.ref f2) = true)
    {od3 an3 : Option Addr} {sl3 : Array (Option Value)} {oc3 kV3 dc3 pm3 cd3 ct3 : Value} {f3 : Addr} (a3 : PySem.W.nsIn K mainGlobals "_law_some_needs" = some (some (.ref f3))) (l3 : K.lookup f3 = some ⟨oc3, od3, .func (PySem.W.fnOf "_law_some_needs" "_law_some_needs" (defArgs s_law_some_needs) (defBody s_law_some_needs) (defScope s_law_some_needs) .none kV3 dc3 pm3 an3 cd3 ct3), sl3⟩) (c3 : PySem.W.codeIn K cd3 "_law_some_needs" = true) (k3 : PySem.W.keepIn K (.ref f3) = true)
    {od4 an4 : Option Addr} {sl4 : Array (Option Value)} {oc4 kV4 dc4 pm4 cd4 ct4 : Value} {f4 : Addr} (a4 : PySem.W.nsIn K mainGlobals "_law_net" = some (some (.ref f4))) (l4 : K.lookup f4 = some ⟨oc4, od4, .func (PySem.W.fnOf "_law_net" "_law_net" (defArgs s_law_net) (defBody s_law_net) (defScope s_law_net) .none kV4 dc4 pm4 an4 cd4 ct4), sl4⟩) (c4 : PySem.W.codeIn K cd4 "_law_net" = true) (k4 : PySem.W.keepIn K (.ref f4) = true)
    {od5 an5 : Option Addr} {sl5 : Array (Option Value)} {oc5 kV5 dc5 pm5 cd5 ct5 : Value} {f5 : Addr} (a5 : PySem.W.nsIn K mainGlobals "_law_many" = some (some (.ref f5))) (l5 : K.lookup f5 = some ⟨oc5, od5, .func (PySem.W.fnOf "_law_many" "_law_many" (defArgs s_law_many) (defBody s_law_many) (defScope s_law_many) .none kV5 dc5 pm5 an5 cd5 ct5), sl5⟩) (c5 : PySem.W.codeIn K cd5 "_law_many" = true) (k5 : PySem.W.keepIn K (.ref f5) = true)
    {od6 an6 : Option Addr} {sl6 : Array (Option Value)} {oc6 kV6 dc6 pm6 cd6 ct6 : Value} {f6 : Addr} (a6 : PySem.W.nsIn K mainGlobals "_law_path_count" = some (some (.ref f6))) (l6 : K.lookup f6 = some ⟨oc6, od6, .func (PySem.W.fnOf "_law_path_count" "_law_path_count" (defArgs s_law_path_count) (defBody s_law_path_count) (defScope s_law_path_count) .none kV6 dc6 pm6 an6 cd6 ct6), sl6⟩) (c6 : PySem.W.codeIn K cd6 "_law_path_count" = true) (k6 : PySem.W.keepIn K (.ref f6) = true)
    {od7 an7 : Option Addr} {sl7 : Array (Option Value)} {oc7 kV7 dc7 pm7 cd7 ct7 : Value} {f7 : Addr} (a7 : PySem.W.nsIn K mainGlobals "all_needed" = some (some (.ref f7))) (l7 : K.lookup f7 = some ⟨oc7, od7, .func (PySem.W.fnOf "all_needed" "all_needed" (defArgs s_all_needed) (defBody s_all_needed) (defScope s_all_needed) .none kV7 dc7 pm7 an7 cd7 ct7), sl7⟩) (c7 : PySem.W.codeIn K cd7 "all_needed" = true) (k7 : PySem.W.keepIn K (.ref f7) = true)
    {od8 an8 : Option Addr} {sl8 : Array (Option Value)} {oc8 kV8 dc8 pm8 cd8 ct8 : Value} {f8 : Addr} (a8 : PySem.W.nsIn K mainGlobals "many_paths" = some (some (.ref f8))) (l8 : K.lookup f8 = some ⟨oc8, od8, .func (PySem.W.fnOf "many_paths" "many_paths" (defArgs s_many_paths) (defBody s_many_paths) (defScope s_many_paths) .none kV8 dc8 pm8 an8 cd8 ct8), sl8⟩) (c8 : PySem.W.codeIn K cd8 "many_paths" = true) (k8 : PySem.W.keepIn K (.ref f8) = true)
    {od9 an9 : Option Addr} {sl9 : Array (Option Value)} {oc9 kV9 dc9 pm9 cd9 ct9 : Value} {f9 : Addr} (a9 : PySem.W.nsIn K mainGlobals "all_paths" = some (some (.ref f9))) (l9 : K.lookup f9 = some ⟨oc9, od9, .func (PySem.W.fnOf "all_paths" "all_paths" (defArgs s_all_paths) (defBody s_all_paths) (defScope s_all_paths) .none kV9 dc9 pm9 an9 cd9 ct9), sl9⟩) (c9 : PySem.W.codeIn K cd9 "all_paths" = true) (k9 : PySem.W.keepIn K (.ref f9) = true)
    {od10 an10 : Option Addr} {sl10 : Array (Option Value)} {oc10 kV10 dc10 pm10 cd10 ct10 : Value} {f10 : Addr} (a10 : PySem.W.nsIn K mainGlobals "_law_told" = some (some (.ref f10))) (l10 : K.lookup f10 = some ⟨oc10, od10, .func (PySem.W.fnOf "_law_told" "_law_told" (defArgs s_law_told) (defBody s_law_told) (defScope s_law_told) .none kV10 dc10 pm10 an10 cd10 ct10), sl10⟩) (c10 : PySem.W.codeIn K cd10 "_law_told" = true) (k10 : PySem.W.keepIn K (.ref f10) = true)
    {od11 an11 : Option Addr} {sl11 : Array (Option Value)} {oc11 kV11 dc11 pm11 cd11 ct11 : Value} {f11 : Addr} (a11 : PySem.W.nsIn K mainGlobals "_law_paths" = some (some (.ref f11))) (l11 : K.lookup f11 = some ⟨oc11, od11, .func (PySem.W.fnOf "_law_paths" "_law_paths" (defArgs s_law_paths) (defBody s_law_paths) (defScope s_law_paths) .none kV11 dc11 pm11 an11 cd11 ct11), sl11⟩) (c11 : PySem.W.codeIn K cd11 "_law_paths" = true) (k11 : PySem.W.keepIn K (.ref f11) = true)
    {od12 an12 : Option Addr} {sl12 : Array (Option Value)} {oc12 kV12 dc12 pm12 cd12 ct12 : Value} {f12 : Addr} (a12 : PySem.W.nsIn K mainGlobals "_law_same" = some (some (.ref f12))) (l12 : K.lookup f12 = some ⟨oc12, od12, .func (PySem.W.fnOf "_law_same" "_law_same" (defArgs s_law_same) (defBody s_law_same) (defScope s_law_same) .none kV12 dc12 pm12 an12 cd12 ct12), sl12⟩) (c12 : PySem.W.codeIn K cd12 "_law_same" = true) (k12 : PySem.W.keepIn K (.ref f12) = true)
    {od13 an13 : Option Addr} {sl13 : Array (Option Value)} {oc13 kV13 dc13 pm13 cd13 ct13 : Value} {f13 : Addr} (a13 : PySem.W.nsIn K mainGlobals "_law_right" = some (some (.ref f13))) (l13 : K.lookup f13 = some ⟨oc13, od13, .func (PySem.W.fnOf "_law_right" "_law_right" (defArgs s_law_right) (defBody s_law_right) (defScope s_law_right) .none kV13 dc13 pm13 an13 cd13 ct13), sl13⟩) (c13 : PySem.W.codeIn K cd13 "_law_right" = true) (k13 : PySem.W.keepIn K (.ref f13) = true)
    {od14 an14 : Option Addr} {sl14 : Array (Option Value)} {oc14 kV14 dc14 pm14 cd14 ct14 : Value} {f14 : Addr} (a14 : PySem.W.nsIn K mainGlobals "law" = some (some (.ref f14))) (l14 : K.lookup f14 = some ⟨oc14, od14, .func (PySem.W.fnOf "law" "law" (defArgs s_law) (defBody s_law) (defScope s_law) .none kV14 dc14 pm14 an14 cd14 ct14), sl14⟩) (c14 : PySem.W.codeIn K cd14 "law" = true) (k14 : PySem.W.keepIn K (.ref f14) = true)
    (b_len : PySem.W.nsIn K mainGlobals "len" = some none)
    (b_range : PySem.W.nsIn K mainGlobals "range" = some none)
    (b_tuple : PySem.W.nsIn K mainGlobals "tuple" = some none)
    (b_list : PySem.W.nsIn K mainGlobals "list" = some none)
    (b_min : PySem.W.nsIn K mainGlobals "min" = some none)
    (b_max : PySem.W.nsIn K mainGlobals "max" = some none)
    (b_sum : PySem.W.nsIn K mainGlobals "sum" = some none)
    (b_all : PySem.W.nsIn K mainGlobals "all" = some none)
    (b_any : PySem.W.nsIn K mainGlobals "any" = some none)
    (b_int : PySem.W.nsIn K mainGlobals "int" = some none)
    (b_bool : PySem.W.nsIn K mainGlobals "bool" = some none)
    (b_str : PySem.W.nsIn K mainGlobals "str" = some none)
    (b_dict : PySem.W.nsIn K mainGlobals "dict" = some none)
    (b_set : PySem.W.nsIn K mainGlobals "set" = some none)
    (b_sorted : PySem.W.nsIn K mainGlobals "sorted" = some none)
    (b_isinstance : PySem.W.nsIn K mainGlobals "isinstance" = some none)
    (b_enumerate : PySem.W.nsIn K mainGlobals "enumerate" = some none)
    (b_zip : PySem.W.nsIn K mainGlobals "zip" = some none)
    (b_reversed : PySem.W.nsIn K mainGlobals "reversed" = some none)
    (b_divmod : PySem.W.nsIn K mainGlobals "divmod" = some none)
    (b_abs : PySem.W.nsIn K mainGlobals "abs" = some none)
    (b_ValueError : PySem.W.nsIn K mainGlobals "ValueError" = some none)
    {t_MOST_PATHS : Tok} (g_MOST_PATHS : PySem.W.nsIn K mainGlobals "MOST_PATHS" = some (some (.int 300 t_MOST_PATHS)))
    {C_RoomError : Addr} (gX_RoomError : PySem.W.nsIn K mainGlobals "RoomError" = some (some (.ref C_RoomError)))
    {C_Barred : Addr} (gX_Barred : PySem.W.nsIn K mainGlobals "Barred" = some (some (.ref C_Barred)))
    {C_NoMove : Addr} (gX_NoMove : PySem.W.nsIn K mainGlobals "NoMove" = some (some (.ref C_NoMove)))
    {C_NoTree : Addr} (gX_NoTree : PySem.W.nsIn K mainGlobals "NoTree" = some (some (.ref C_NoTree)))
    {C_TooMany : Addr} (gX_TooMany : PySem.W.nsIn K mainGlobals "TooMany" = some (some (.ref C_TooMany)))
    {C_BadRow : Addr} (gX_BadRow : PySem.W.nsIn K mainGlobals "BadRow" = some (some (.ref C_BadRow)))
    (nz_RoomError : (C_RoomError == 0) = false)
    (kX_RoomError : PySem.W.keepIn K (.ref C_RoomError) = true)
    (bX_RoomError : PySem.W.subIn K (.ref C_RoomError) (.type "BaseException") = some true)
    (tX_RoomError : PySem.W.typeIn K (.ref C_RoomError) = some (.type "type"))
    (hdX_RoomError : PySem.W.hasDictIn K C_RoomError = true)
    (hgX_RoomError : PySem.W.findIn K (.ref C_RoomError) "__getattribute__" = some (some (.builtin "BaseException.__getattribute__")))
    (hkX_RoomError : PySem.W.findIn K (.ref C_RoomError) "__getattr__" = some none)
    (haX_RoomError : PySem.W.findIn K (.ref C_RoomError) "__class__" = some (some (.builtin "object.__class__")))
    (hmX_RoomError : PySem.W.mroIn K C_RoomError (.type "object") = some true)
    (ssX_RoomError : PySem.W.subIn K (.ref C_RoomError) (.ref C_RoomError) = some true)
    (svX_RoomError : PySem.W.subIn K (.ref C_RoomError) (.type "ValueError") = some true)
    (nz_Barred : (C_Barred == 0) = false)
    (kX_Barred : PySem.W.keepIn K (.ref C_Barred) = true)
    (bX_Barred : PySem.W.subIn K (.ref C_Barred) (.type "BaseException") = some true)
    (tX_Barred : PySem.W.typeIn K (.ref C_Barred) = some (.type "type"))
    (hdX_Barred : PySem.W.hasDictIn K C_Barred = true)
    (hgX_Barred : PySem.W.findIn K (.ref C_Barred) "__getattribute__" = some (some (.builtin "BaseException.__getattribute__")))
    (hkX_Barred : PySem.W.findIn K (.ref C_Barred) "__getattr__" = some none)
    (haX_Barred : PySem.W.findIn K (.ref C_Barred) "__class__" = some (some (.builtin "object.__class__")))
    (hmX_Barred : PySem.W.mroIn K C_Barred (.type "object") = some true)
    (ssX_Barred : PySem.W.subIn K (.ref C_Barred) (.ref C_Barred) = some true)
    (svX_Barred : PySem.W.subIn K (.ref C_Barred) (.type "ValueError") = some true)
    (nz_NoMove : (C_NoMove == 0) = false)
    (kX_NoMove : PySem.W.keepIn K (.ref C_NoMove) = true)
    (bX_NoMove : PySem.W.subIn K (.ref C_NoMove) (.type "BaseException") = some true)
    (tX_NoMove : PySem.W.typeIn K (.ref C_NoMove) = some (.type "type"))
    (hdX_NoMove : PySem.W.hasDictIn K C_NoMove = true)
    (hgX_NoMove : PySem.W.findIn K (.ref C_NoMove) "__getattribute__" = some (some (.builtin "BaseException.__getattribute__")))
    (hkX_NoMove : PySem.W.findIn K (.ref C_NoMove) "__getattr__" = some none)
    (haX_NoMove : PySem.W.findIn K (.ref C_NoMove) "__class__" = some (some (.builtin "object.__class__")))
    (hmX_NoMove : PySem.W.mroIn K C_NoMove (.type "object") = some true)
    (ssX_NoMove : PySem.W.subIn K (.ref C_NoMove) (.ref C_NoMove) = some true)
    (svX_NoMove : PySem.W.subIn K (.ref C_NoMove) (.type "ValueError") = some true)
    (nz_NoTree : (C_NoTree == 0) = false)
    (kX_NoTree : PySem.W.keepIn K (.ref C_NoTree) = true)
    (bX_NoTree : PySem.W.subIn K (.ref C_NoTree) (.type "BaseException") = some true)
    (tX_NoTree : PySem.W.typeIn K (.ref C_NoTree) = some (.type "type"))
    (hdX_NoTree : PySem.W.hasDictIn K C_NoTree = true)
    (hgX_NoTree : PySem.W.findIn K (.ref C_NoTree) "__getattribute__" = some (some (.builtin "BaseException.__getattribute__")))
    (hkX_NoTree : PySem.W.findIn K (.ref C_NoTree) "__getattr__" = some none)
    (haX_NoTree : PySem.W.findIn K (.ref C_NoTree) "__class__" = some (some (.builtin "object.__class__")))
    (hmX_NoTree : PySem.W.mroIn K C_NoTree (.type "object") = some true)
    (ssX_NoTree : PySem.W.subIn K (.ref C_NoTree) (.ref C_NoTree) = some true)
    (svX_NoTree : PySem.W.subIn K (.ref C_NoTree) (.type "ValueError") = some true)
    (nz_TooMany : (C_TooMany == 0) = false)
    (kX_TooMany : PySem.W.keepIn K (.ref C_TooMany) = true)
    (bX_TooMany : PySem.W.subIn K (.ref C_TooMany) (.type "BaseException") = some true)
    (tX_TooMany : PySem.W.typeIn K (.ref C_TooMany) = some (.type "type"))
    (hdX_TooMany : PySem.W.hasDictIn K C_TooMany = true)
    (hgX_TooMany : PySem.W.findIn K (.ref C_TooMany) "__getattribute__" = some (some (.builtin "BaseException.__getattribute__")))
    (hkX_TooMany : PySem.W.findIn K (.ref C_TooMany) "__getattr__" = some none)
    (haX_TooMany : PySem.W.findIn K (.ref C_TooMany) "__class__" = some (some (.builtin "object.__class__")))
    (hmX_TooMany : PySem.W.mroIn K C_TooMany (.type "object") = some true)
    (ssX_TooMany : PySem.W.subIn K (.ref C_TooMany) (.ref C_TooMany) = some true)
    (svX_TooMany : PySem.W.subIn K (.ref C_TooMany) (.type "ValueError") = some true)
    (nz_BadRow : (C_BadRow == 0) = false)
    (kX_BadRow : PySem.W.keepIn K (.ref C_BadRow) = true)
    (bX_BadRow : PySem.W.subIn K (.ref C_BadRow) (.type "BaseException") = some true)
    (tX_BadRow : PySem.W.typeIn K (.ref C_BadRow) = some (.type "type"))
    (hdX_BadRow : PySem.W.hasDictIn K C_BadRow = true)
    (hgX_BadRow : PySem.W.findIn K (.ref C_BadRow) "__getattribute__" = some (some (.builtin "BaseException.__getattribute__")))
    (hkX_BadRow : PySem.W.findIn K (.ref C_BadRow) "__getattr__" = some none)
    (haX_BadRow : PySem.W.findIn K (.ref C_BadRow) "__class__" = some (some (.builtin "object.__class__")))
    (hmX_BadRow : PySem.W.mroIn K C_BadRow (.type "object") = some true)
    (ssX_BadRow : PySem.W.subIn K (.ref C_BadRow) (.ref C_BadRow) = some true)
    (svX_BadRow : PySem.W.subIn K (.ref C_BadRow) (.type "ValueError") = some true)
    (hnX : PySem.W.specialIn K (.builtin "object.__class__") "__get__" = some (some (.builtin "getset_descriptor.__get__")))
    (htX : PySem.W.takesIn K (.builtin "object.__class__") = some true)
    (s_Barred_RoomError : PySem.W.subIn K (.ref C_Barred) (.ref C_RoomError) = some true)
    (s_NoMove_RoomError : PySem.W.subIn K (.ref C_NoMove) (.ref C_RoomError) = some true)
    (s_NoTree_RoomError : PySem.W.subIn K (.ref C_NoTree) (.ref C_RoomError) = some true)
    (s_TooMany_RoomError : PySem.W.subIn K (.ref C_TooMany) (.ref C_RoomError) = some true)
    (s_BadRow_RoomError : PySem.W.subIn K (.ref C_BadRow) (.ref C_RoomError) = some true)
    (s_NoMove_Barred : PySem.W.subIn K (.ref C_NoMove) (.ref C_Barred) = some false)
    (s_NoTree_Barred : PySem.W.subIn K (.ref C_NoTree) (.ref C_Barred) = some false)
    (s_TooMany_Barred : PySem.W.subIn K (.ref C_TooMany) (.ref C_Barred) = some false)
    (s_BadRow_Barred : PySem.W.subIn K (.ref C_BadRow) (.ref C_Barred) = some false)
    (s_Barred_NoMove : PySem.W.subIn K (.ref C_Barred) (.ref C_NoMove) = some false)
    (s_NoTree_NoMove : PySem.W.subIn K (.ref C_NoTree) (.ref C_NoMove) = some false)
    (s_TooMany_NoMove : PySem.W.subIn K (.ref C_TooMany) (.ref C_NoMove) = some false)
    (s_BadRow_NoMove : PySem.W.subIn K (.ref C_BadRow) (.ref C_NoMove) = some false)
    (s_Barred_NoTree : PySem.W.subIn K (.ref C_Barred) (.ref C_NoTree) = some false)
    (s_NoMove_NoTree : PySem.W.subIn K (.ref C_NoMove) (.ref C_NoTree) = some false)
    (s_TooMany_NoTree : PySem.W.subIn K (.ref C_TooMany) (.ref C_NoTree) = some false)
    (s_BadRow_NoTree : PySem.W.subIn K (.ref C_BadRow) (.ref C_NoTree) = some false)
    (s_Barred_TooMany : PySem.W.subIn K (.ref C_Barred) (.ref C_TooMany) = some false)
    (s_NoMove_TooMany : PySem.W.subIn K (.ref C_NoMove) (.ref C_TooMany) = some false)
    (s_NoTree_TooMany : PySem.W.subIn K (.ref C_NoTree) (.ref C_TooMany) = some false)
    (s_BadRow_TooMany : PySem.W.subIn K (.ref C_BadRow) (.ref C_TooMany) = some false)
    (s_Barred_BadRow : PySem.W.subIn K (.ref C_Barred) (.ref C_BadRow) = some false)
    (s_NoMove_BadRow : PySem.W.subIn K (.ref C_NoMove) (.ref C_BadRow) = some false)
    (s_NoTree_BadRow : PySem.W.subIn K (.ref C_NoTree) (.ref C_BadRow) = some false)
    (s_TooMany_BadRow : PySem.W.subIn K (.ref C_TooMany) (.ref C_BadRow) = some false)
    (p0_Barred : PySem.W.subIn K (.type "int") (.ref C_Barred) = some false)
    (p1_Barred : PySem.W.subIn K (.type "bool") (.ref C_Barred) = some false)
    (p2_Barred : PySem.W.subIn K (.type "str") (.ref C_Barred) = some false)
    (p3_Barred : PySem.W.subIn K (.type "list") (.ref C_Barred) = some false)
    (p4_Barred : PySem.W.subIn K (.type "tuple") (.ref C_Barred) = some false)
    (p5_Barred : PySem.W.subIn K (.type "dict") (.ref C_Barred) = some false)
    (p6_Barred : PySem.W.subIn K (.type "NoneType") (.ref C_Barred) = some false)
    (p0_NoMove : PySem.W.subIn K (.type "int") (.ref C_NoMove) = some false)
    (p1_NoMove : PySem.W.subIn K (.type "bool") (.ref C_NoMove) = some false)
    (p2_NoMove : PySem.W.subIn K (.type "str") (.ref C_NoMove) = some false)
    (p3_NoMove : PySem.W.subIn K (.type "list") (.ref C_NoMove) = some false)
    (p4_NoMove : PySem.W.subIn K (.type "tuple") (.ref C_NoMove) = some false)
    (p5_NoMove : PySem.W.subIn K (.type "dict") (.ref C_NoMove) = some false)
    (p6_NoMove : PySem.W.subIn K (.type "NoneType") (.ref C_NoMove) = some false)
    (p0_NoTree : PySem.W.subIn K (.type "int") (.ref C_NoTree) = some false)
    (p1_NoTree : PySem.W.subIn K (.type "bool") (.ref C_NoTree) = some false)
    (p2_NoTree : PySem.W.subIn K (.type "str") (.ref C_NoTree) = some false)
    (p3_NoTree : PySem.W.subIn K (.type "list") (.ref C_NoTree) = some false)
    (p4_NoTree : PySem.W.subIn K (.type "tuple") (.ref C_NoTree) = some false)
    (p5_NoTree : PySem.W.subIn K (.type "dict") (.ref C_NoTree) = some false)
    (p6_NoTree : PySem.W.subIn K (.type "NoneType") (.ref C_NoTree) = some false)
    (p0_TooMany : PySem.W.subIn K (.type "int") (.ref C_TooMany) = some false)
    (p1_TooMany : PySem.W.subIn K (.type "bool") (.ref C_TooMany) = some false)
    (p2_TooMany : PySem.W.subIn K (.type "str") (.ref C_TooMany) = some false)
    (p3_TooMany : PySem.W.subIn K (.type "list") (.ref C_TooMany) = some false)
    (p4_TooMany : PySem.W.subIn K (.type "tuple") (.ref C_TooMany) = some false)
    (p5_TooMany : PySem.W.subIn K (.type "dict") (.ref C_TooMany) = some false)
    (p6_TooMany : PySem.W.subIn K (.type "NoneType") (.ref C_TooMany) = some false)
    (p0_BadRow : PySem.W.subIn K (.type "int") (.ref C_BadRow) = some false)
    (p1_BadRow : PySem.W.subIn K (.type "bool") (.ref C_BadRow) = some false)
    (p2_BadRow : PySem.W.subIn K (.type "str") (.ref C_BadRow) = some false)
    (p3_BadRow : PySem.W.subIn K (.type "list") (.ref C_BadRow) = some false)
    (p4_BadRow : PySem.W.subIn K (.type "tuple") (.ref C_BadRow) = some false)
    (p5_BadRow : PySem.W.subIn K (.type "dict") (.ref C_BadRow) = some false)
    (p6_BadRow : PySem.W.subIn K (.type "NoneType") (.ref C_BadRow) = some false)
    (qX_TooMany : PySem.W.excIn K C_TooMany [.type "ValueError", .type "Exception", .type "BaseException", .type "object"] "ValueError.__new__" = true) :
    ∃ fd : FuncData, (∀ (s : Shared) (v : Value), BindsTo s fd ⟨[v], []⟩ [("_law_script", v)]) ∧ ∀ base : Heap, K.In base → base.Ns mainGlobals mg → FnOk l.prog w K mg base (L2.CX l.prog w) 43 fa fd ["_law_script"] (Fw.spLaw K) := by
  have e := hfa.symm.trans (PySem.W.mg_of X G a14)
  cases e
  have bl : Blt mg := ⟨PySem.W.mg_none_of X G b_len, PySem.W.mg_none_of X G b_range, PySem.W.mg_none_of X G b_tuple, PySem.W.mg_none_of X G b_list, PySem.W.mg_none_of X G b_min, PySem.W.mg_none_of X G b_max, PySem.W.mg_none_of X G b_sum, PySem.W.mg_none_of X G b_all, PySem.W.mg_none_of X G b_any, PySem.W.mg_none_of X G b_int, PySem.W.mg_none_of X G b_bool, PySem.W.mg_none_of X G b_str, PySem.W.mg_none_of X G b_dict, PySem.W.mg_none_of X G b_set, PySem.W.mg_none_of X G b_sorted, PySem.W.mg_none_of X G b_isinstance, PySem.W.mg_none_of X G b_enumerate, PySem.W.mg_none_of X G b_zip, PySem.W.mg_none_of X G b_reversed, PySem.W.mg_none_of X G b_divmod, PySem.W.mg_none_of X G b_abs, PySem.W.mg_none_of X G b_ValueError⟩
  have c_MOST_PATHS := PySem.W.mg_of X G g_MOST_PATHS
  have F0 := fun_mk (st := s_law_take) l0 c0 k0
  have m0 := PySem.W.mg_of X G a0
  have b0 := F0.binds (ps := ["_law_state", "_law_many_here"]) fun _ _ _ _ _ _ us hl => match us, hl with | [_, _], _ => rfl
  have F1 := fun_mk (st := s_law_begin) l1 c1 k1
  have m1 := PySem.W.mg_of X G a1
  have b1 := F1.binds (ps := ["_law_script"]) fun _ _ _ _ _ _ us hl => match us, hl with | [_], _ => rfl
  have F2 := fun_mk (st := s_law_tree_net) l2 c2 k2
  have m2 := PySem.W.mg_of X G a2
  have b2 := F2.binds (ps := ["_law_state", "_law_many_here"]) fun _ _ _ _ _ _ us hl => match us, hl with | [_, _], _ => rfl
  have F3 := fun_mk (st := s_law_some_needs) l3 c3 k3
  have m3 := PySem.W.mg_of X G a3
  have b3 := F3.binds (ps := ["_law_state", "_law_k"]) fun _ _ _ _ _ _ us hl => match us, hl with | [_, _], _ => rfl
  have F4 := fun_mk (st := s_law_net) l4 c4 k4
  have m4 := PySem.W.mg_of X G a4
  have b4 := F4.binds (ps := ["_law_state", "_law_many_here"]) fun _ _ _ _ _ _ us hl => match us, hl with | [_, _], _ => rfl
  have F5 := fun_mk (st := s_law_many) l5 c5 k5
  have m5 := PySem.W.mg_of X G a5
  have b5 := F5.binds (ps := ["_law_state", "_law_most"]) fun _ _ _ _ _ _ us hl => match us, hl with | [_, _], _ => rfl
  have F6 := fun_mk (st := s_law_path_count) l6 c6 k6
  have m6 := PySem.W.mg_of X G a6
  have b6 := F6.binds (ps := ["_law_net_here", "_law_work"]) fun _ _ _ _ _ _ us hl => match us, hl with | [_, _], _ => rfl
  have F7 := fun_mk (st := s_all_needed) l7 c7 k7
  have m7 := PySem.W.mg_of X G a7
  have b7 := F7.binds (ps := ["net", "asked"]) fun _ _ _ _ _ _ us hl => match us, hl with | [_, _], _ => rfl
  have F8 := fun_mk (st := s_many_paths) l8 c8 k8
  have m8 := PySem.W.mg_of X G a8
  have b8 := F8.binds (ps := ["net", "work"]) fun _ _ _ _ _ _ us hl => match us, hl with | [_, _], _ => rfl
  have F9 := fun_mk (st := s_all_paths) l9 c9 k9
  have m9 := PySem.W.mg_of X G a9
  have b9 := F9.binds (ps := ["net", "work"]) fun _ _ _ _ _ _ us hl => match us, hl with | [_, _], _ => rfl
  have F10 := fun_mk (st := s_law_told) l10 c10 k10
  have m10 := PySem.W.mg_of X G a10
  have b10 := F10.binds (ps := ["_law_net_here", "_law_work"]) fun _ _ _ _ _ _ us hl => match us, hl with | [_, _], _ => rfl
  have F11 := fun_mk (st := s_law_paths) l11 c11 k11
  have m11 := PySem.W.mg_of X G a11
  have b11 := F11.binds (ps := ["_law_net_here", "_law_work"]) fun _ _ _ _ _ _ us hl => match us, hl with | [_, _], _ => rfl
  have F12 := fun_mk (st := s_law_same) l12 c12 k12
  have m12 := PySem.W.mg_of X G a12
  have b12 := F12.binds (ps := ["_law_found", "_law_due"]) fun _ _ _ _ _ _ us hl => match us, hl with | [_, _], _ => rfl
  have F13 := fun_mk (st := s_law_right) l13 c13 k13
  have m13 := PySem.W.mg_of X G a13
  have b13 := F13.binds (ps := ["_law_net_here", "_law_work"]) fun _ _ _ _ _ _ us hl => match us, hl with | [_, _], _ => rfl
  have F14 := fun_mk (st := s_law) l14 c14 k14
  have m14 := PySem.W.mg_of X G a14
  have X_RoomError : XF K C_RoomError := ⟨nz_RoomError, kX_RoomError, bX_RoomError, tX_RoomError, hdX_RoomError, hgX_RoomError, hkX_RoomError, haX_RoomError, hmX_RoomError, ssX_RoomError, svX_RoomError⟩
  have e_RoomError := clsAt_eq gX_RoomError
  have mX_RoomError : mg "RoomError" = some (.ref (clsAt K "RoomError")) := by rw [e_RoomError]; exact PySem.W.mg_of X G gX_RoomError
  have X_Barred : XF K C_Barred := ⟨nz_Barred, kX_Barred, bX_Barred, tX_Barred, hdX_Barred, hgX_Barred, hkX_Barred, haX_Barred, hmX_Barred, ssX_Barred, svX_Barred⟩
  have e_Barred := clsAt_eq gX_Barred
  have mX_Barred : mg "Barred" = some (.ref (clsAt K "Barred")) := by rw [e_Barred]; exact PySem.W.mg_of X G gX_Barred
  have X_NoMove : XF K C_NoMove := ⟨nz_NoMove, kX_NoMove, bX_NoMove, tX_NoMove, hdX_NoMove, hgX_NoMove, hkX_NoMove, haX_NoMove, hmX_NoMove, ssX_NoMove, svX_NoMove⟩
  have e_NoMove := clsAt_eq gX_NoMove
  have mX_NoMove : mg "NoMove" = some (.ref (clsAt K "NoMove")) := by rw [e_NoMove]; exact PySem.W.mg_of X G gX_NoMove
  have X_NoTree : XF K C_NoTree := ⟨nz_NoTree, kX_NoTree, bX_NoTree, tX_NoTree, hdX_NoTree, hgX_NoTree, hkX_NoTree, haX_NoTree, hmX_NoTree, ssX_NoTree, svX_NoTree⟩
  have e_NoTree := clsAt_eq gX_NoTree
  have mX_NoTree : mg "NoTree" = some (.ref (clsAt K "NoTree")) := by rw [e_NoTree]; exact PySem.W.mg_of X G gX_NoTree
  have X_TooMany : XF K C_TooMany := ⟨nz_TooMany, kX_TooMany, bX_TooMany, tX_TooMany, hdX_TooMany, hgX_TooMany, hkX_TooMany, haX_TooMany, hmX_TooMany, ssX_TooMany, svX_TooMany⟩
  have e_TooMany := clsAt_eq gX_TooMany
  have mX_TooMany : mg "TooMany" = some (.ref (clsAt K "TooMany")) := by rw [e_TooMany]; exact PySem.W.mg_of X G gX_TooMany
  have X_BadRow : XF K C_BadRow := ⟨nz_BadRow, kX_BadRow, bX_BadRow, tX_BadRow, hdX_BadRow, hgX_BadRow, hkX_BadRow, haX_BadRow, hmX_BadRow, ssX_BadRow, svX_BadRow⟩
  have e_BadRow := clsAt_eq gX_BadRow
  have mX_BadRow : mg "BadRow" = some (.ref (clsAt K "BadRow")) := by rw [e_BadRow]; exact PySem.W.mg_of X G gX_BadRow
  have it_Barred : IsT K (.ref (clsAt K "Barred")) te_Barred := (ist_cons (fun _ => by rw [e_Barred]; exact kit_ref hdX_Barred tX_Barred ssX_Barred ssX_Barred) (ist_cons (fun _ => by rw [e_NoMove, e_Barred]; exact kit_ref hdX_Barred tX_Barred ssX_Barred s_NoMove_Barred) (ist_cons (fun _ => by rw [e_NoTree, e_Barred]; exact kit_ref hdX_Barred tX_Barred ssX_Barred s_NoTree_Barred) (ist_cons (fun _ => by rw [e_TooMany, e_Barred]; exact kit_ref hdX_Barred tX_Barred ssX_Barred s_TooMany_Barred) (ist_cons (fun _ => by rw [e_BadRow, e_Barred]; exact kit_ref hdX_Barred tX_Barred ssX_Barred s_BadRow_Barred) (ist_nil (by rw [e_Barred]; exact ist_pl hdX_Barred tX_Barred p0_Barred p1_Barred p2_Barred p3_Barred p4_Barred p5_Barred p6_Barred)))))))
  have it_NoMove : IsT K (.ref (clsAt K "NoMove")) te_NoMove := (ist_cons (fun _ => by rw [e_Barred, e_NoMove]; exact kit_ref hdX_NoMove tX_NoMove ssX_NoMove s_Barred_NoMove) (ist_cons (fun _ => by rw [e_NoMove]; exact kit_ref hdX_NoMove tX_NoMove ssX_NoMove ssX_NoMove) (ist_cons (fun _ => by rw [e_NoTree, e_NoMove]; exact kit_ref hdX_NoMove tX_NoMove ssX_NoMove s_NoTree_NoMove) (ist_cons (fun _ => by rw [e_TooMany, e_NoMove]; exact kit_ref hdX_NoMove tX_NoMove ssX_NoMove s_TooMany_NoMove) (ist_cons (fun _ => by rw [e_BadRow, e_NoMove]; exact kit_ref hdX_NoMove tX_NoMove ssX_NoMove s_BadRow_NoMove) (ist_nil (by rw [e_NoMove]; exact ist_pl hdX_NoMove tX_NoMove p0_NoMove p1_NoMove p2_NoMove p3_NoMove p4_NoMove p5_NoMove p6_NoMove)))))))
  have it_NoTree : IsT K (.ref (clsAt K "NoTree")) te_NoTree := (ist_cons (fun _ => by rw [e_Barred, e_NoTree]; exact kit_ref hdX_NoTree tX_NoTree ssX_NoTree s_Barred_NoTree) (ist_cons (fun _ => by rw [e_NoMove, e_NoTree]; exact kit_ref hdX_NoTree tX_NoTree ssX_NoTree s_NoMove_NoTree) (ist_cons (fun _ => by rw [e_NoTree]; exact kit_ref hdX_NoTree tX_NoTree ssX_NoTree ssX_NoTree) (ist_cons (fun _ => by rw [e_TooMany, e_NoTree]; exact kit_ref hdX_NoTree tX_NoTree ssX_NoTree s_TooMany_NoTree) (ist_cons (fun _ => by rw [e_BadRow, e_NoTree]; exact kit_ref hdX_NoTree tX_NoTree ssX_NoTree s_BadRow_NoTree) (ist_nil (by rw [e_NoTree]; exact ist_pl hdX_NoTree tX_NoTree p0_NoTree p1_NoTree p2_NoTree p3_NoTree p4_NoTree p5_NoTree p6_NoTree)))))))
  have it_TooMany : IsT K (.ref (clsAt K "TooMany")) te_TooMany := (ist_cons (fun _ => by rw [e_Barred, e_TooMany]; exact kit_ref hdX_TooMany tX_TooMany ssX_TooMany s_Barred_TooMany) (ist_cons (fun _ => by rw [e_NoMove, e_TooMany]; exact kit_ref hdX_TooMany tX_TooMany ssX_TooMany s_NoMove_TooMany) (ist_cons (fun _ => by rw [e_NoTree, e_TooMany]; exact kit_ref hdX_TooMany tX_TooMany ssX_TooMany s_NoTree_TooMany) (ist_cons (fun _ => by rw [e_TooMany]; exact kit_ref hdX_TooMany tX_TooMany ssX_TooMany ssX_TooMany) (ist_cons (fun _ => by rw [e_BadRow, e_TooMany]; exact kit_ref hdX_TooMany tX_TooMany ssX_TooMany s_BadRow_TooMany) (ist_nil (by rw [e_TooMany]; exact ist_pl hdX_TooMany tX_TooMany p0_TooMany p1_TooMany p2_TooMany p3_TooMany p4_TooMany p5_TooMany p6_TooMany)))))))
  have it_BadRow : IsT K (.ref (clsAt K "BadRow")) te_BadRow := (ist_cons (fun _ => by rw [e_Barred, e_BadRow]; exact kit_ref hdX_BadRow tX_BadRow ssX_BadRow s_Barred_BadRow) (ist_cons (fun _ => by rw [e_NoMove, e_BadRow]; exact kit_ref hdX_BadRow tX_BadRow ssX_BadRow s_NoMove_BadRow) (ist_cons (fun _ => by rw [e_NoTree, e_BadRow]; exact kit_ref hdX_BadRow tX_BadRow ssX_BadRow s_NoTree_BadRow) (ist_cons (fun _ => by rw [e_TooMany, e_BadRow]; exact kit_ref hdX_BadRow tX_BadRow ssX_BadRow s_TooMany_BadRow) (ist_cons (fun _ => by rw [e_BadRow]; exact kit_ref hdX_BadRow tX_BadRow ssX_BadRow ssX_BadRow) (ist_nil (by rw [e_BadRow]; exact ist_pl hdX_BadRow tX_BadRow p0_BadRow p1_BadRow p2_BadRow p3_BadRow p4_BadRow p5_BadRow p6_BadRow)))))))
  have it_ValueError : IsT K (.type "ValueError") te_ValueError := (ist_cons (fun _ => by rw [e_Barred]; exact kit_refT (by decide +kernel) svX_Barred) (ist_cons (fun _ => by rw [e_NoMove]; exact kit_refT (by decide +kernel) svX_NoMove) (ist_cons (fun _ => by rw [e_NoTree]; exact kit_refT (by decide +kernel) svX_NoTree) (ist_cons (fun _ => by rw [e_TooMany]; exact kit_refT (by decide +kernel) svX_TooMany) (ist_cons (fun _ => by rw [e_BadRow]; exact kit_refT (by decide +kernel) svX_BadRow) (ist_nil ist_plV))))))
  have xf : XFacts K mg := ⟨mX_RoomError, mX_Barred, mX_NoMove, mX_NoTree, mX_TooMany, mX_BadRow, ⟨by rw [e_TooMany]; exact X_TooMany.ne, mX_TooMany, by rw [e_TooMany]; exact qX_TooMany, by rw [e_TooMany]; exact kX_TooMany, by rw [e_TooMany]; exact bX_TooMany, by rw [e_TooMany]; exact tX_TooMany⟩, (ext_cons (fun _ => by rw [e_Barred, e_RoomError]; exact PySem.W.exm_ref bX_RoomError hdX_RoomError tX_RoomError s_Barred_RoomError) (ext_cons (fun _ => by rw [e_NoMove, e_RoomError]; exact PySem.W.exm_ref bX_RoomError hdX_RoomError tX_RoomError s_NoMove_RoomError) (ext_cons (fun _ => by rw [e_NoTree, e_RoomError]; exact PySem.W.exm_ref bX_RoomError hdX_RoomError tX_RoomError s_NoTree_RoomError) (ext_cons (fun _ => by rw [e_TooMany, e_RoomError]; exact PySem.W.exm_ref bX_RoomError hdX_RoomError tX_RoomError s_TooMany_RoomError) (ext_cons (fun _ => by rw [e_BadRow, e_RoomError]; exact PySem.W.exm_ref bX_RoomError hdX_RoomError tX_RoomError s_BadRow_RoomError) ext_nil))))), it_Barred, it_NoMove, it_NoTree, it_TooMany, it_BadRow, it_ValueError, (ists_cons (t3 := [("Barred", true), ("NoMove", true), ("NoTree", true), ("TooMany", false), ("BadRow", true)]) it_BadRow (ists_cons (t3 := [("Barred", true), ("NoMove", true), ("NoTree", true), ("TooMany", false), ("BadRow", false)]) it_Barred (ists_cons (t3 := [("Barred", false), ("NoMove", true), ("NoTree", true), ("TooMany", false), ("BadRow", false)]) it_NoMove (ists_cons (t3 := [("Barred", false), ("NoMove", false), ("NoTree", true), ("TooMany", false), ("BadRow", false)]) it_NoTree (ists_nil (cs := xNames)) (by decide)) (by decide)) (by decide)) (by decide)), (xcs_cons (fun _ => by rw [e_Barred]; exact X_Barred.excC hnX htX) (xcs_cons (fun _ => by rw [e_NoMove]; exact X_NoMove.excC hnX htX) (xcs_cons (fun _ => by rw [e_NoTree]; exact X_NoTree.excC hnX htX) (xcs_cons (fun _ => by rw [e_TooMany]; exact X_TooMany.excC hnX htX) (xcs_cons (fun _ => by rw [e_BadRow]; exact X_BadRow.excC hnX htX) xcs_nil))))), trivial⟩
  refine ⟨PySem.W.fnOf "law" "law" (defArgs s_law) (defBody s_law) (defScope s_law) .none kV14 dc14 pm14 an14 cd14 ct14, fun s v => .of_eq rfl, fun base _ _ => ?_⟩
  have G__law_take : CalOk l.prog w K mg base 1 "_law_take" 2 takeD := ok_law_take F0 m0 b0 bl
  have G__law_tree_net : CalOk l.prog w K mg base 2 "_law_tree_net" 2 Cm.d_law_tree_net := cal_ok F2 m2 b2 scLawTreeNet 4 2 rfl rfl (body_law_tree_net bl G__law_take)
  have G__law_some_needs : CalOk l.prog w K mg base 2 "_law_some_needs" 2 Cm.d_law_some_needs := cal_ok F3 m3 b3 scLawSomeNeeds 3 2 rfl rfl (body_law_some_needs bl G__law_take)
  have G__law_net : CalOk l.prog w K mg base 3 "_law_net" 2 Cm.d_law_net := cal_ok F4 m4 b4 scLawNet 7 2 rfl rfl (body_law_net bl G__law_take G__law_tree_net G__law_some_needs)
  have G__law_many : CalOk l.prog w K mg base 2 "_law_many" 2 Cm.d_law_many := cal_ok F5 m5 b5 scLawMany 1 2 rfl rfl (body_law_many bl G__law_take)
  have G__law_path_count : CalOk l.prog w K mg base 1 "_law_path_count" 2 d_law_path_count := cal_ok F6 m6 b6 scLawPathCount 3 2 rfl rfl (body_law_path_count bl )
  have G_all_needed : CalOk l.prog w K mg base 1 "all_needed" 2 Cm.d_all_needed := cal_ok F7 m7 b7 scAllNeeded 3 2 rfl rfl (body_all_needed bl )
  have G_many_paths : CalOk l.prog w K mg base 2 "many_paths" 2 d_many_paths := cal_ok F8 m8 b8 scManyPaths 3 2 rfl rfl (body_many_paths bl G_all_needed)
  have G_all_paths : CalOk l.prog w K mg base 3 "all_paths" 2 d_all_paths := cal_ok F9 m9 b9 scAllPaths 4 2 rfl rfl (body_all_paths bl G_many_paths xf c_MOST_PATHS)
  have G__law_told : CalOk l.prog w K mg base 4 "_law_told" 2 d_law_told := cal_ok F10 m10 b10 scLawTold 4 2 rfl rfl (body_law_told bl G_all_paths xf)
  have G__law_paths : CalOk l.prog w K mg base 1 "_law_paths" 2 d_law_paths := cal_ok F11 m11 b11 scLawPaths 4 2 rfl rfl (body_law_paths bl )
  have G__law_same : CalOk l.prog w K mg base 40 "_law_same" 2 Cm.d_law_same := by
    have z : ∀ j, CalOk l.prog w K mg base (0 + j) "_law_same" 2 (Cm.d_law_same_at j) := fun j => by
      induction j with
      | zero => exact cal_no F12 m12 b12 rfl
      | succ j ih => exact cal_ok F12 m12 b12 scLawSame 2 2 rfl rfl (body_law_same j _ bl  ih)
    exact z 40
  have G__law_same := G__law_same.mono (show 40 ≤ 41 by decide)
  have G__law_right : CalOk l.prog w K mg base 42 "_law_right" 2 d_law_right := cal_ok F13 m13 b13 scLawRight 4 2 rfl rfl (body_law_right bl G__law_path_count G__law_told G__law_paths G__law_same)
  exact ok_law F14 F1 m1 b1 bl G__law_net G__law_many G__law_take G__law_right
end K36
open PySem PySem.W PyProof.Rows
set_option maxRecDepth 100000 in
set_option maxHeartbeats 0 in
theorem PySem.Challenge.cw_fewrooms_k36_all_paths_holds : PySem.Challenge.rw_fewrooms_k36_all_paths.Holds := by
  w_on; o_law; k_head; (case hw => w_witness2)
  k_fill
  refine L2.walk_of (l := PySem.Challenge.rw_fewrooms_k36_all_paths) (n := 63) (k := 43) (x := "_law_script") (CX := fun w => L2.CX PySem.Challenge.rw_fewrooms_k36_all_paths.prog w) (sp := fun w => Fw.spLaw _) rfl (by decide) rfl ⟨rfl, by decide, by decide⟩ (fun w h Y => PySem.W.kIn_of Y) ?F (fun _ H a ns hl ho hS => ⟨a, ns, rfl, hS, hl, Fw.hlen_only ho, fun _ => rfl⟩) (fun _ _ _ _ _ z => Fw.cx_no z)
  case F =>
    intro w mg fa h KX G hmg
    refine' K36.all_mk KX G hmg ?a0 ?l0 ?c0 ?k0 ?a1 ?l1 ?c1 ?k1 ?a2 ?l2 ?c2 ?k2 ?a3 ?l3 ?c3 ?k3 ?a4 ?l4 ?c4 ?k4 ?a5 ?l5 ?c5 ?k5 ?a6 ?l6 ?c6 ?k6 ?a7 ?l7 ?c7 ?k7 ?a8 ?l8 ?c8 ?k8 ?a9 ?l9 ?c9 ?k9 ?a10 ?l10 ?c10 ?k10 ?a11 ?l11 ?c11 ?k11 ?a12 ?l12 ?c12 ?k12 ?a13 ?l13 ?c13 ?k13 ?a14 ?l14 ?c14 ?k14 ?b_len ?b_range ?b_tuple ?b_list ?b_min ?b_max ?b_sum ?b_all ?b_any ?b_int ?b_bool ?b_str ?b_dict ?b_set ?b_sorted ?b_isinstance ?b_enumerate ?b_zip ?b_reversed ?b_divmod ?b_abs ?b_ValueError ?g_MOST_PATHS ?gX_RoomError ?gX_Barred ?gX_NoMove ?gX_NoTree ?gX_TooMany ?gX_BadRow ?nz_RoomError ?kX_RoomError ?bX_RoomError ?tX_RoomError ?hdX_RoomError ?hgX_RoomError ?hkX_RoomError ?haX_RoomError ?hmX_RoomError ?ssX_RoomError ?svX_RoomError ?nz_Barred ?kX_Barred ?bX_Barred ?tX_Barred ?hdX_Barred ?hgX_Barred ?hkX_Barred ?haX_Barred ?hmX_Barred ?ssX_Barred ?svX_Barred ?nz_NoMove ?kX_NoMove ?bX_NoMove ?tX_NoMove ?hdX_NoMove ?hgX_NoMove ?hkX_NoMove ?haX_NoMove ?hmX_NoMove ?ssX_NoMove ?svX_NoMove ?nz_NoTree ?kX_NoTree ?bX_NoTree ?tX_NoTree ?hdX_NoTree ?hgX_NoTree ?hkX_NoTree ?haX_NoTree ?hmX_NoTree ?ssX_NoTree ?svX_NoTree ?nz_TooMany ?kX_TooMany ?bX_TooMany ?tX_TooMany ?hdX_TooMany ?hgX_TooMany ?hkX_TooMany ?haX_TooMany ?hmX_TooMany ?ssX_TooMany ?svX_TooMany ?nz_BadRow ?kX_BadRow ?bX_BadRow ?tX_BadRow ?hdX_BadRow ?hgX_BadRow ?hkX_BadRow ?haX_BadRow ?hmX_BadRow ?ssX_BadRow ?svX_BadRow ?hnX ?htX ?s_Barred_RoomError ?s_NoMove_RoomError ?s_NoTree_RoomError ?s_TooMany_RoomError ?s_BadRow_RoomError ?s_NoMove_Barred ?s_NoTree_Barred ?s_TooMany_Barred ?s_BadRow_Barred ?s_Barred_NoMove ?s_NoTree_NoMove ?s_TooMany_NoMove ?s_BadRow_NoMove ?s_Barred_NoTree ?s_NoMove_NoTree ?s_TooMany_NoTree ?s_BadRow_NoTree ?s_Barred_TooMany ?s_NoMove_TooMany ?s_NoTree_TooMany ?s_BadRow_TooMany ?s_Barred_BadRow ?s_NoMove_BadRow ?s_NoTree_BadRow ?s_TooMany_BadRow ?p0_Barred ?p1_Barred ?p2_Barred ?p3_Barred ?p4_Barred ?p5_Barred ?p6_Barred ?p0_NoMove ?p1_NoMove ?p2_NoMove ?p3_NoMove ?p4_NoMove ?p5_NoMove ?p6_NoMove ?p0_NoTree ?p1_NoTree ?p2_NoTree ?p3_NoTree ?p4_NoTree ?p5_NoTree ?p6_NoTree ?p0_TooMany ?p1_TooMany ?p2_TooMany ?p3_TooMany ?p4_TooMany ?p5_TooMany ?p6_TooMany ?p0_BadRow ?p1_BadRow ?p2_BadRow ?p3_BadRow ?p4_BadRow ?p5_BadRow ?p6_BadRow ?qX_TooMany
    (case a0 => k_is)
    (case l0 => k_is)
    (case c0 => k_is)
    (case k0 => k_is)
    (case a1 => k_is)
    (case l1 => k_is)
    (case c1 => k_is)
    (case k1 => k_is)
    (case a2 => k_is)
    (case l2 => k_is)
    (case c2 => k_is)
    (case k2 => k_is)
    (case a3 => k_is)
    (case l3 => k_is)
    (case c3 => k_is)
    (case k3 => k_is)
    (case a4 => k_is)
    (case l4 => k_is)
    (case c4 => k_is)
    (case k4 => k_is)
    (case a5 => k_is)
    (case l5 => k_is)
    (case c5 => k_is)
    (case k5 => k_is)
    (case a6 => k_is)
    (case l6 => k_is)
    (case c6 => k_is)
    (case k6 => k_is)
    (case a7 => k_is)
    (case l7 => k_is)
    (case c7 => k_is)
    (case k7 => k_is)
    (case a8 => k_is)
    (case l8 => k_is)
    (case c8 => k_is)
    (case k8 => k_is)
    (case a9 => k_is)
    (case l9 => k_is)
    (case c9 => k_is)
    (case k9 => k_is)
    (case a10 => k_is)
    (case l10 => k_is)
    (case c10 => k_is)
    (case k10 => k_is)
    (case a11 => k_is)
    (case l11 => k_is)
    (case c11 => k_is)
    (case k11 => k_is)
    (case a12 => k_is)
    (case l12 => k_is)
    (case c12 => k_is)
    (case k12 => k_is)
    (case a13 => k_is)
    (case l13 => k_is)
    (case c13 => k_is)
    (case k13 => k_is)
    (case a14 => k_is)
    (case l14 => k_is)
    (case c14 => k_is)
    (case k14 => k_is)
    (case b_len => k_is)
    (case b_range => k_is)
    (case b_tuple => k_is)
    (case b_list => k_is)
    (case b_min => k_is)
    (case b_max => k_is)
    (case b_sum => k_is)
    (case b_all => k_is)
    (case b_any => k_is)
    (case b_int => k_is)
    (case b_bool => k_is)
    (case b_str => k_is)
    (case b_dict => k_is)
    (case b_set => k_is)
    (case b_sorted => k_is)
    (case b_isinstance => k_is)
    (case b_enumerate => k_is)
    (case b_zip => k_is)
    (case b_reversed => k_is)
    (case b_divmod => k_is)
    (case b_abs => k_is)
    (case b_ValueError => k_is)
    (case g_MOST_PATHS => k_is)
    (case gX_RoomError => k_is)
    (case gX_Barred => k_is)
    (case gX_NoMove => k_is)
    (case gX_NoTree => k_is)
    (case gX_TooMany => k_is)
    (case gX_BadRow => k_is)
    (case nz_RoomError => rfl)
    (case kX_RoomError => k_is)
    (case bX_RoomError => k_is)
    (case tX_RoomError => k_is)
    (case hdX_RoomError => k_is)
    (case hgX_RoomError => k_is)
    (case hkX_RoomError => k_is)
    (case haX_RoomError => k_is)
    (case hmX_RoomError => k_is)
    (case ssX_RoomError => k_is)
    (case svX_RoomError => k_is)
    (case nz_Barred => rfl)
    (case kX_Barred => k_is)
    (case bX_Barred => k_is)
    (case tX_Barred => k_is)
    (case hdX_Barred => k_is)
    (case hgX_Barred => k_is)
    (case hkX_Barred => k_is)
    (case haX_Barred => k_is)
    (case hmX_Barred => k_is)
    (case ssX_Barred => k_is)
    (case svX_Barred => k_is)
    (case nz_NoMove => rfl)
    (case kX_NoMove => k_is)
    (case bX_NoMove => k_is)
    (case tX_NoMove => k_is)
    (case hdX_NoMove => k_is)
    (case hgX_NoMove => k_is)
    (case hkX_NoMove => k_is)
    (case haX_NoMove => k_is)
    (case hmX_NoMove => k_is)
    (case ssX_NoMove => k_is)
    (case svX_NoMove => k_is)
    (case nz_NoTree => rfl)
    (case kX_NoTree => k_is)
    (case bX_NoTree => k_is)
    (case tX_NoTree => k_is)
    (case hdX_NoTree => k_is)
    (case hgX_NoTree => k_is)
    (case hkX_NoTree => k_is)
    (case haX_NoTree => k_is)
    (case hmX_NoTree => k_is)
    (case ssX_NoTree => k_is)
    (case svX_NoTree => k_is)
    (case nz_TooMany => rfl)
    (case kX_TooMany => k_is)
    (case bX_TooMany => k_is)
    (case tX_TooMany => k_is)
    (case hdX_TooMany => k_is)
    (case hgX_TooMany => k_is)
    (case hkX_TooMany => k_is)
    (case haX_TooMany => k_is)
    (case hmX_TooMany => k_is)
    (case ssX_TooMany => k_is)
    (case svX_TooMany => k_is)
    (case nz_BadRow => rfl)
    (case kX_BadRow => k_is)
    (case bX_BadRow => k_is)
    (case tX_BadRow => k_is)
    (case hdX_BadRow => k_is)
    (case hgX_BadRow => k_is)
    (case hkX_BadRow => k_is)
    (case haX_BadRow => k_is)
    (case hmX_BadRow => k_is)
    (case ssX_BadRow => k_is)
    (case svX_BadRow => k_is)
    (case hnX => k_is)
    (case htX => k_is)
    (case s_Barred_RoomError => k_is)
    (case s_NoMove_RoomError => k_is)
    (case s_NoTree_RoomError => k_is)
    (case s_TooMany_RoomError => k_is)
    (case s_BadRow_RoomError => k_is)
    (case s_NoMove_Barred => k_is)
    (case s_NoTree_Barred => k_is)
    (case s_TooMany_Barred => k_is)
    (case s_BadRow_Barred => k_is)
    (case s_Barred_NoMove => k_is)
    (case s_NoTree_NoMove => k_is)
    (case s_TooMany_NoMove => k_is)
    (case s_BadRow_NoMove => k_is)
    (case s_Barred_NoTree => k_is)
    (case s_NoMove_NoTree => k_is)
    (case s_TooMany_NoTree => k_is)
    (case s_BadRow_NoTree => k_is)
    (case s_Barred_TooMany => k_is)
    (case s_NoMove_TooMany => k_is)
    (case s_NoTree_TooMany => k_is)
    (case s_BadRow_TooMany => k_is)
    (case s_Barred_BadRow => k_is)
    (case s_NoMove_BadRow => k_is)
    (case s_NoTree_BadRow => k_is)
    (case s_TooMany_BadRow => k_is)
    (case p0_Barred => k_is)
    (case p1_Barred => k_is)
    (case p2_Barred => k_is)
    (case p3_Barred => k_is)
    (case p4_Barred => k_is)
    (case p5_Barred => k_is)
    (case p6_Barred => k_is)
    (case p0_NoMove => k_is)
    (case p1_NoMove => k_is)
    (case p2_NoMove => k_is)
    (case p3_NoMove => k_is)
    (case p4_NoMove => k_is)
    (case p5_NoMove => k_is)
    (case p6_NoMove => k_is)
    (case p0_NoTree => k_is)
    (case p1_NoTree => k_is)
    (case p2_NoTree => k_is)
    (case p3_NoTree => k_is)
    (case p4_NoTree => k_is)
    (case p5_NoTree => k_is)
    (case p6_NoTree => k_is)
    (case p0_TooMany => k_is)
    (case p1_TooMany => k_is)
    (case p2_TooMany => k_is)
    (case p3_TooMany => k_is)
    (case p4_TooMany => k_is)
    (case p5_TooMany => k_is)
    (case p6_TooMany => k_is)
    (case p0_BadRow => k_is)
    (case p1_BadRow => k_is)
    (case p2_BadRow => k_is)
    (case p3_BadRow => k_is)
    (case p4_BadRow => k_is)
    (case p5_BadRow => k_is)
    (case p6_BadRow => k_is)
    (case qX_TooMany => k_exc)
