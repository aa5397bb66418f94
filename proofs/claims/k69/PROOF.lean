import PyProof.Rows.All
import Wide.All
import OpenK.AllK
import Wide.FinOn
import HandS.ForMost
import HandS.ForExc
import HandS.TupAny
import HandS.SortInts
import HandS.Strs
import HandS.Conv
import HandS.Zip
import HandS.Deep
import HandS.IsInst
import HandS.SetFor
import KE.KSortedM
import HandS.SortRule
import HandS.Ends
import HandS.Iter
import HandS.Call
import KE.GoesMore
import HandS.Rev
import HandS.More
import HandS.TupLe
import HandS.ExcInit
import HandS.ExcValue
import KE.KExcIs
import HandS.ExcField
import HandS.ExcIs
import KE.KRevSl
import HandS.HotCalls
import HandS.SortKw
import HandS.ListItems
import HandS.DictTup
import HandS.TupMul
import HandS.Remove
import KE.KDictPairs
import HandS.WideBits
import KE.DataMinMax
import HandS.SetKeys
import HandS.TupLen
import KE.KUnpack
import KE.SortData
import PySem.Challenge.RW_fewrooms_k69_whole_nets_one_behind_anoth
set_option Elab.async false
set_option linter.all false
set_option maxRecDepth 100000
namespace Fw
open PySem PySem.Spec PyProof.Rows L2
inductive D where
  | non | bl (b : Bool) | int (i : Int) | str (x : Str)
  | lst (o : Bool) (xs : List D)
  | tup (xs : List D)
  | dk (o : Bool) (ks : List Key) (xs : List D)
  | dt (o : Bool) (ks : List (List Key)) (xs : List D)
  | rs
  | ob (o : Bool) (C : Str) (fs : List Str) (xs : List D)
  | ev (C : Str) (fs : List Str) (xs : List D)
  | tv (vs : List V)
  | tz (xs : List D)
mutual
def frz : D → D
  | .lst _ xs => .lst false (frzL xs)
  | .tup xs => .tup (frzL xs)
  | .dk _ ks xs => .dk false ks (frzL xs)
  | .dt _ ks xs => .dt false ks (frzL xs)
  | .ob _ C fs xs => .ob false C fs (frzL xs)
  | .ev C fs xs => .ev C fs xs
  | .tv vs => .tv vs
  | .tz xs => .tz (frzL xs)
  | .non => .non
  | .bl b => .bl b
  | .int i => .int i
  | .str x => .str x
  | .rs => .rs
def frzL : List D → List D
  | [] => []
  | d :: ds => frz d :: frzL ds
end
mutual
def shr : D → Bool
  | .lst o xs => !o && shrL xs
  | .tup xs => shrL xs
  | .dk o _ xs => !o && shrL xs
  | .dt o _ xs => !o && shrL xs
  | .ob o _ _ xs => !o && shrL xs
  | .ev _ _ _ => true
  | .tv _ => true
  | .tz xs => shrL xs
  | .non => true
  | .bl _ => true
  | .int _ => true
  | .str _ => true
  | .rs => true
def shrL : List D → Bool
  | [] => true
  | d :: ds => shr d && shrL ds
end
mutual
def clo : D → Bool
  | .lst o xs => o && cloL xs
  | .tup xs => cloL xs
  | .dk o _ xs => o && cloL xs
  | .dt o _ xs => o && cloL xs
  | .ob o _ _ xs => o && cloL xs
  | .ev _ _ _ => false
  | .tv _ => true
  | .tz _ => false
  | .non => true
  | .bl _ => true
  | .int _ => true
  | .str _ => true
  | .rs => true
def cloL : List D → Bool
  | [] => true
  | d :: ds => clo d && cloL ds
end
structure Gs where
  rs : Option (Addr × Addr)
  cl : Str → Addr
def scV : D → Option V
  | .non => some .non
  | .bl b => some (.bl b)
  | .int i => some (.int i)
  | .str x => some (.str x)
  | _ => none
def ExV (cls : Value) (d : Option Addr) (a : Addr) : HO := .ext fun h => ∃ (oe : Obj) (vs : Array Value), h.get? a = some oe ∧ Zc cls d oe ∧ oe.data = .fields vs
def ExD (Hs : Hp) (d : Option Addr) (fvs : List (Str × V)) : Prop := match d with
  | none => fvs = []
  | some dd => Hs dd = some (.xd fvs)
section
variable (S : Gs) (H Hs : Hp)
mutual
inductive Rp : D → V → List Addr → Prop
  | non : Rp .non .non []
  | bl (b : Bool) : Rp (.bl b) (.bl b) []
  | int (i : Int) : Rp (.int i) (.int i) []
  | str (x : Str) : Rp (.str x) (.str x) []
  | lstS {a : Addr} {vs : List V} {ds : List D} (h : Hs a = some (.lst vs)) (r : RpL ds vs []) : Rp (.lst false ds) (.ref a) []
  | lstO {a : Addr} {vs : List V} {ds : List D} {F : List Addr} (h : H a = some (.lst vs)) (r : RpL ds vs F) : Rp (.lst true ds) (.ref a) (a :: F)
  | tup {a : Addr} {vs : List V} {ds : List D} {F : List Addr} (h : Hs a = some (.tup vs)) (r : RpL ds vs F) : Rp (.tup ds) (.ref a) F
  | dkS {a : Addr} {kvs : List (Key × V)} {ds : List D} (h : Rd Hs a (.dK kvs)) (r : RpL ds (kvs.map (·.2)) []) : Rp (.dk false (kvs.map (·.1)) ds) (.ref a) []
  | dkO {a : Addr} {kvs : List (Key × V)} {ds : List D} {F : List Addr} (h : H a = some (.dK kvs)) (r : RpL ds (kvs.map (·.2)) F) : Rp (.dk true (kvs.map (·.1)) ds) (.ref a) (a :: F)
  | dtS {a : Addr} {kvs : List (List Key × V)} {ds : List D} (h : Rd Hs a (.dT kvs)) (r : RpL ds (kvs.map (·.2)) []) : Rp (.dt false (kvs.map (·.1)) ds) (.ref a) []
  | dtO {a : Addr} {kvs : List (List Key × V)} {ds : List D} {F : List Addr} (h : H a = some (.dT kvs)) (r : RpL ds (kvs.map (·.2)) F) : Rp (.dt true (kvs.map (·.1)) ds) (.ref a) (a :: F)
  | rs {s c : Addr} (h : S.rs = some (s, c)) : Rp .rs (.ref s) []
  | obS {a dx : Addr} {C : Str} {fvs : List (Str × V)} {ds : List D} (h : Hs a = some (.ins (S.cl C) dx fvs)) (r : RpL ds (fvs.map (·.2)) []) : Rp (.ob false C (fvs.map (·.1)) ds) (.ref a) []
  | obO {a dx : Addr} {C : Str} {fvs : List (Str × V)} {ds : List D} {F : List Addr} (h : H a = some (.ins (S.cl C) dx fvs)) (r : RpL ds (fvs.map (·.2)) F) : Rp (.ob true C (fvs.map (·.1)) ds) (.ref a) (a :: F)
  | ev {a : Addr} {d : Option Addr} {C : Str} {fvs : List (Str × V)} {ds : List D} (h : Hs a = some (ExV (.ref (S.cl C)) d a)) (hd : ExD Hs d fvs) (r : ds.map scV = fvs.map fun p => some p.2) (hz : S.cl C ≠ 0) : Rp (.ev C (fvs.map (·.1)) ds) (.ref a) []
  | tv {a : Addr} {vs : List V} (h : Hs a = some (.tup vs)) : Rp (.tv vs) (.ref a) []
  | tz {a : Addr} {ob : Obj} {vs : List V} {ds : List D} (h : Hs a = some (.frz ob (.tup vs))) (hd : ob.dict = none) (r : RpL ds vs []) : Rp (.tz ds) (.ref a) []
inductive RpL : List D → List V → List Addr → Prop
  | nil : RpL [] [] []
  | cons {d : D} {v : V} {ds : List D} {vs : List V} {F G : List Addr} (h : Rp d v F) (r : RpL ds vs G) : RpL (d :: ds) (v :: vs) (F ++ G)
end
end
theorem rd_mono {Hs Hs' : Hp} {a : Addr} {u : HO} (h : Rd Hs a u) (m : ∀ a o, Hs a = some o → Hs' a = some o) : Rd Hs' a u := by
  rcases h with h | ⟨o, h⟩
  · exact .inl (m _ _ h)
  · exact .inr ⟨o, m _ _ h⟩
theorem exD_mono {Hs Hs' : Hp} {d : Option Addr} {fvs : List (Str × V)} (h : ExD Hs d fvs) (m : ∀ a o, Hs a = some o → Hs' a = some o) : ExD Hs' d fvs := by
  cases d with
  | none => exact h
  | some dd => exact m _ _ h
section
variable {S : Gs} {H Hs H' Hs' : Hp}
theorem RpL.cons0 {d : D} {v : V} {ds : List D} {vs : List V} (h : Rp S H Hs d v []) (r : RpL S H Hs ds vs []) : RpL S H Hs (d :: ds) (v :: vs) [] := RpL.cons (F := []) (G := []) h r
mutual
theorem Rp.mono : ∀ {d : D} {v : V} {F : List Addr}, Rp S H Hs d v F → (∀ a ∈ F, ∀ o, H a = some o → H' a = some o) → (∀ a o, Hs a = some o → Hs' a = some o) → Rp S H' Hs' d v F
  | _, _, _, .non, _, _ => .non
  | _, _, _, .bl b, _, _ => .bl b
  | _, _, _, .int b, _, _ => .int b
  | _, _, _, .str b, _, _ => .str b
  | _, _, _, .rs h, _, _ => .rs h
  | _, _, _, .lstS h r, k, m => .lstS (m _ _ h) (RpL.mono r k m)
  | _, _, _, .lstO h r, k, m => .lstO (k _ List.mem_cons_self _ h) (RpL.mono r (fun a ha => k a (List.mem_cons_of_mem _ ha)) m)
  | _, _, _, .tup h r, k, m => .tup (m _ _ h) (RpL.mono r k m)
  | _, _, _, .dkS h r, k, m => .dkS (rd_mono h m) (RpL.mono r k m)
  | _, _, _, .dkO h r, k, m => .dkO (k _ List.mem_cons_self _ h) (RpL.mono r (fun a ha => k a (List.mem_cons_of_mem _ ha)) m)
  | _, _, _, .dtS h r, k, m => .dtS (rd_mono h m) (RpL.mono r k m)
  | _, _, _, .dtO h r, k, m => .dtO (k _ List.mem_cons_self _ h) (RpL.mono r (fun a ha => k a (List.mem_cons_of_mem _ ha)) m)
  | _, _, _, .obS h r, k, m => .obS (m _ _ h) (RpL.mono r k m)
  | _, _, _, .obO h r, k, m => .obO (k _ List.mem_cons_self _ h) (RpL.mono r (fun a ha => k a (List.mem_cons_of_mem _ ha)) m)
  | _, _, _, .ev h hd r z, k, m => .ev (m _ _ h) (exD_mono hd m) r z
  | _, _, _, .tv h, k, m => .tv (m _ _ h)
  | _, _, _, .tz h hd r, k, m => .tz (m _ _ h) hd (RpL.mono r (fun _ ha => nomatch ha) m)
theorem RpL.mono : ∀ {d : List D} {v : List V} {F : List Addr}, RpL S H Hs d v F → (∀ a ∈ F, ∀ o, H a = some o → H' a = some o) → (∀ a o, Hs a = some o → Hs' a = some o) → RpL S H' Hs' d v F
  | _, _, _, .nil, _, _ => .nil
  | _, _, _, .cons h r, k, m => .cons (Rp.mono h (fun a ha => k a (List.mem_append_left _ ha)) m) (RpL.mono r (fun a ha => k a (List.mem_append_right _ ha)) m)
end
mutual
theorem Rp.frz : ∀ {d : D} {v : V} {F : List Addr}, Rp S H Hs d v F → (∀ a ∈ F, ∀ o, H a = some o → Hs' a = some o) → (∀ a o, Hs a = some o → Hs' a = some o) → Rp S H' Hs' (frz d) v []
  | _, _, _, .non, _, _ => by rw [Fw.frz]; exact .non
  | _, _, _, .bl b, _, _ => by rw [Fw.frz]; exact .bl b
  | _, _, _, .int b, _, _ => by rw [Fw.frz]; exact .int b
  | _, _, _, .str b, _, _ => by rw [Fw.frz]; exact .str b
  | _, _, _, .rs h, _, _ => by rw [Fw.frz]; exact .rs h
  | _, _, _, .lstS h r, k, m => by rw [Fw.frz]; exact .lstS (m _ _ h) (RpL.frz r k m)
  | _, _, _, .lstO h r, k, m => by rw [Fw.frz]; exact .lstS (k _ List.mem_cons_self _ h) (RpL.frz r (fun a ha => k a (List.mem_cons_of_mem _ ha)) m)
  | _, _, _, .tup h r, k, m => by rw [Fw.frz]; exact .tup (m _ _ h) (RpL.frz r k m)
  | _, _, _, .dkS h r, k, m => by rw [Fw.frz]; exact .dkS (rd_mono h m) (RpL.frz r k m)
  | _, _, _, .dkO h r, k, m => by rw [Fw.frz]; exact .dkS (.inl (k _ List.mem_cons_self _ h)) (RpL.frz r (fun a ha => k a (List.mem_cons_of_mem _ ha)) m)
  | _, _, _, .dtS h r, k, m => by rw [Fw.frz]; exact .dtS (rd_mono h m) (RpL.frz r k m)
  | _, _, _, .dtO h r, k, m => by rw [Fw.frz]; exact .dtS (.inl (k _ List.mem_cons_self _ h)) (RpL.frz r (fun a ha => k a (List.mem_cons_of_mem _ ha)) m)
  | _, _, _, .obS h r, k, m => by rw [Fw.frz]; exact .obS (m _ _ h) (RpL.frz r k m)
  | _, _, _, .obO h r, k, m => by rw [Fw.frz]; exact .obS (k _ List.mem_cons_self _ h) (RpL.frz r (fun a ha => k a (List.mem_cons_of_mem _ ha)) m)
  | _, _, _, .ev h hd r z, k, m => by rw [Fw.frz]; exact .ev (m _ _ h) (exD_mono hd m) r z
  | _, _, _, .tv h, k, m => by rw [Fw.frz]; exact .tv (m _ _ h)
  | _, _, _, .tz h hd r, k, m => by rw [Fw.frz]; exact .tz (m _ _ h) hd (RpL.frz r (fun _ ha => nomatch ha) m)
theorem RpL.frz : ∀ {d : List D} {v : List V} {F : List Addr}, RpL S H Hs d v F → (∀ a ∈ F, ∀ o, H a = some o → Hs' a = some o) → (∀ a o, Hs a = some o → Hs' a = some o) → RpL S H' Hs' (frzL d) v []
  | _, _, _, .nil, _, _ => by rw [frzL]; exact .nil
  | _, _, _, .cons h r, k, m => by rw [frzL]; exact .cons0 (Rp.frz h (fun a ha => k a (List.mem_append_left _ ha)) m) (RpL.frz r (fun a ha => k a (List.mem_append_right _ ha)) m)
end
mutual
theorem Rp.shr : ∀ {d : D} {v : V} {F : List Addr}, Rp S H Hs d v F → Fw.shr d = true → F = []
  | _, _, _, .non, _ => rfl
  | _, _, _, .bl b, _ => rfl
  | _, _, _, .int b, _ => rfl
  | _, _, _, .str b, _ => rfl
  | _, _, _, .rs h, _ => rfl
  | _, _, _, .lstS h r, k => rfl
  | _, _, _, .lstO h r, k => by rw [Fw.shr] at k; simp at k
  | _, _, _, .tup h r, k => by rw [Fw.shr] at k; exact RpL.shr r k
  | _, _, _, .dkS h r, k => rfl
  | _, _, _, .dkO h r, k => by rw [Fw.shr] at k; simp at k
  | _, _, _, .dtS h r, k => rfl
  | _, _, _, .dtO h r, k => by rw [Fw.shr] at k; simp at k
  | _, _, _, .obS h r, k => rfl
  | _, _, _, .obO h r, k => by rw [Fw.shr] at k; simp at k
  | _, _, _, .ev _ _ _ _, k => rfl
  | _, _, _, .tv _, k => rfl
  | _, _, _, .tz _ _ _, k => rfl
theorem RpL.shr : ∀ {d : List D} {v : List V} {F : List Addr}, RpL S H Hs d v F → shrL d = true → F = []
  | _, _, _, .nil, _ => rfl
  | _, _, _, .cons h r, k => by
    rw [shrL, Bool.and_eq_true] at k
    rw [Rp.shr h k.1, RpL.shr r k.2]; rfl
end
mutual
theorem Rp.clo : ∀ {d : D} {v : V} {F : List Addr}, Rp S H Hs d v F → Fw.clo d = true → (∀ a ∈ F, ∀ o, H a = some o → H' a = some o) → (∀ a vs, Hs a = some (.tup vs) → Hs' a = some (.tup vs)) → Rp S H' Hs' d v F
  | _, _, _, .non, _, _, _ => .non
  | _, _, _, .bl b, _, _, _ => .bl b
  | _, _, _, .int b, _, _, _ => .int b
  | _, _, _, .str b, _, _, _ => .str b
  | _, _, _, .rs h, _, _, _ => .rs h
  | _, _, _, .lstS h r, k, m, n => by rw [Fw.clo] at k; simp at k
  | _, _, _, .lstO h r, k, m, n => by rw [Fw.clo] at k; exact .lstO (m _ List.mem_cons_self _ h) (RpL.clo r (by simpa using k) (fun a ha => m a (List.mem_cons_of_mem _ ha)) n)
  | _, _, _, .tup h r, k, m, n => by rw [Fw.clo] at k; exact .tup (n _ _ h) (RpL.clo r k m n)
  | _, _, _, .dkS h r, k, m, n => by rw [Fw.clo] at k; simp at k
  | _, _, _, .dkO h r, k, m, n => by rw [Fw.clo] at k; exact .dkO (m _ List.mem_cons_self _ h) (RpL.clo r (by simpa using k) (fun a ha => m a (List.mem_cons_of_mem _ ha)) n)
  | _, _, _, .dtS h r, k, m, n => by rw [Fw.clo] at k; simp at k
  | _, _, _, .dtO h r, k, m, n => by rw [Fw.clo] at k; exact .dtO (m _ List.mem_cons_self _ h) (RpL.clo r (by simpa using k) (fun a ha => m a (List.mem_cons_of_mem _ ha)) n)
  | _, _, _, .obS h r, k, m, n => by rw [Fw.clo] at k; simp at k
  | _, _, _, .ev _ _ _ _, k, m, n => by rw [Fw.clo] at k; simp at k
  | _, _, _, .tv h, k, m, n => .tv (n _ _ h)
  | _, _, _, .tz _ _ _, k, m, n => by rw [Fw.clo] at k; simp at k
  | _, _, _, .obO h r, k, m, n => by rw [Fw.clo] at k; exact .obO (m _ List.mem_cons_self _ h) (RpL.clo r (by simpa using k) (fun a ha => m a (List.mem_cons_of_mem _ ha)) n)
theorem RpL.clo : ∀ {d : List D} {v : List V} {F : List Addr}, RpL S H Hs d v F → cloL d = true → (∀ a ∈ F, ∀ o, H a = some o → H' a = some o) → (∀ a vs, Hs a = some (.tup vs) → Hs' a = some (.tup vs)) → RpL S H' Hs' d v F
  | _, _, _, .nil, _, _, _ => .nil
  | _, _, _, .cons h r, k, m, n => by
    rw [cloL, Bool.and_eq_true] at k
    exact .cons (Rp.clo h k.1 (fun a ha => m a (List.mem_append_left _ ha)) n) (RpL.clo r k.2 (fun a ha => m a (List.mem_append_right _ ha)) n)
end
mutual
theorem Rp.noTup : ∀ {d : D} {v : V} {F : List Addr}, Rp S H Hs d v F → ∀ a ∈ F, ∀ vs, H a ≠ some (.tup vs)
  | _, _, _, .non, _, h, _ => nomatch h
  | _, _, _, .bl b, _, h, _ => nomatch h
  | _, _, _, .int b, _, h, _ => nomatch h
  | _, _, _, .str b, _, h, _ => nomatch h
  | _, _, _, .rs _, _, h, _ => nomatch h
  | _, _, _, .lstS _ _, _, h, _ => nomatch h
  | _, _, _, .lstO h r, a, ha, vs => by
    rcases List.mem_cons.mp ha with rfl | ha
    · rw [h]; nofun
    · exact RpL.noTup r a ha vs
  | _, _, _, .tup h r, a, ha, vs => RpL.noTup r a ha vs
  | _, _, _, .dkS _ _, _, h, _ => nomatch h
  | _, _, _, .dkO h r, a, ha, vs => by
    rcases List.mem_cons.mp ha with rfl | ha
    · rw [h]; nofun
    · exact RpL.noTup r a ha vs
  | _, _, _, .dtS _ _, _, h, _ => nomatch h
  | _, _, _, .dtO h r, a, ha, vs => by
    rcases List.mem_cons.mp ha with rfl | ha
    · rw [h]; nofun
    · exact RpL.noTup r a ha vs
  | _, _, _, .obS _ _, _, h, _ => nomatch h
  | _, _, _, .ev _ _ _ _, _, h, _ => nomatch h
  | _, _, _, .tv _, _, h, _ => nomatch h
  | _, _, _, .tz _ _ _, _, h, _ => nomatch h
  | _, _, _, .obO h r, a, ha, vs => by
    rcases List.mem_cons.mp ha with rfl | ha
    · rw [h]; nofun
    · exact RpL.noTup r a ha vs
theorem RpL.noTup : ∀ {d : List D} {v : List V} {F : List Addr}, RpL S H Hs d v F → ∀ a ∈ F, ∀ vs, H a ≠ some (.tup vs)
  | _, _, _, .nil, _, h, _ => nomatch h
  | _, _, _, .cons h r, a, ha, vs => by
    rcases List.mem_append.mp ha with ha | ha
    · exact Rp.noTup h a ha vs
    · exact RpL.noTup r a ha vs
end
theorem RpL.length {d : List D} {v : List V} {F : List Addr} (h : RpL S H Hs d v F) : d.length = v.length := by
  induction d generalizing v F with
  | nil => cases h; rfl
  | cons x xs ih => cases h with | cons h r => simp [ih r]
theorem RpL.get : ∀ {ds : List D} {vs : List V} {F : List Addr} {i : Nat} {d : D}, RpL S H Hs ds vs F → ds[i]? = some d → ∃ v G, vs[i]? = some v ∧ Rp S H Hs d v G ∧ ∀ a ∈ G, a ∈ F
  | _, _, _, 0, _, .cons h r, e => by simp at e; subst e; exact ⟨_, _, rfl, h, fun a ha => List.mem_append_left _ ha⟩
  | _, _, _, i + 1, d, .cons h r, e => by
    obtain ⟨v, G, h1, h2, h3⟩ := RpL.get (i := i) (d := d) r (by simpa using e)
    exact ⟨v, G, by simpa using h1, h2, fun a ha => List.mem_append_right _ (h3 a ha)⟩
theorem RpL.get0 {ds : List D} {vs : List V} {i : Nat} {d : D} (r : RpL S H Hs ds vs []) (e : ds[i]? = some d) : ∃ v, vs[i]? = some v ∧ Rp S H Hs d v [] := by
  obtain ⟨v, G, h1, h2, h3⟩ := r.get e
  have : G = [] := List.eq_nil_iff_forall_not_mem.mpr fun a ha => by simpa using h3 a ha
  subst this
  exact ⟨v, h1, h2⟩
theorem RpL.append {ds es : List D} {vs ws : List V} {F G : List Addr} (h : RpL S H Hs ds vs F) (k : RpL S H Hs es ws G) : RpL S H Hs (ds ++ es) (vs ++ ws) (F ++ G) := by
  induction ds generalizing vs F with
  | nil => cases h; exact k
  | cons x xs ih => cases h with | cons h r => rw [List.append_assoc]; exact .cons h (ih r)
theorem RpL.cons_nil {d : D} {ds : List D} {v : V} {vs : List V} (h : RpL S H Hs (d :: ds) (v :: vs) []) : Rp S H Hs d v [] ∧ RpL S H Hs ds vs [] := by
  generalize e : ([] : List Addr) = F at h
  cases h with
  | cons h r =>
    obtain ⟨rfl, rfl⟩ := List.append_eq_nil_iff.mp e.symm
    exact ⟨h, r⟩
theorem RpL.of {ds : List D} {vs : List V} (hl : ds.length = vs.length) (h : ∀ (i : Nat) (d : D) (v : V), ds[i]? = some d → vs[i]? = some v → Rp S H Hs d v []) : RpL S H Hs ds vs [] := by
  induction ds generalizing vs with
  | nil => cases vs with
    | nil => exact .nil
    | cons v vs => simp at hl
  | cons d ds ih => cases vs with
    | nil => simp at hl
    | cons v vs =>
      refine .cons0 (h 0 d v rfl rfl) (ih (by simpa using hl) fun i d' v' h1 h2 => h (i + 1) d' v' (by simpa using h1) (by simpa using h2))
end
def hid (M : List Addr) (H : Hp) : Hp := fun a => if a ∈ M then none else H a
theorem hid_some {M : List Addr} {H : Hp} {a : Addr} {o : HO} (h : hid M H a = some o) : a ∉ M ∧ H a = some o := by
  unfold hid at h; split at h
  · cases h
  · exact ⟨by assumption, h⟩
theorem hid_of {M : List Addr} {H : Hp} {a : Addr} {o : HO} (h : H a = some o) (n : a ∉ M) : hid M H a = some o := by
  unfold hid; rw [if_neg n]; exact h
def sA (S : Gs) : List Addr := match S.rs with
  | none => []
  | some (s, c) => [s, c]
structure RSt where
  cells : List Int
  turn : Int
def StOk (S : Gs) (st : RSt) (H : Hp) : Prop := match S.rs with
  | none => True
  | some (s, c) => s ≠ c ∧ H s = some (.dK [(.inr "cells", .ref c), (.inr "turn", .int st.turn)]) ∧ H c = some (.lst (st.cells.map V.int))
theorem StOk.mono {S : Gs} {st : RSt} {H H' : Hp} (h : StOk S st H) (k : ∀ a ∈ sA S, ∀ o, H a = some o → H' a = some o) : StOk S st H' := by
  obtain ⟨rs, cl⟩ := S
  match rs, h, k with
  | none, _, _ => trivial
  | some (s, c), ⟨h1, h2, h3⟩, k => exact ⟨h1, k s (by simp [sA]) _ h2, k c (by simp [sA]) _ h3⟩
inductive Sv where
  | no | sh (d : D) | ow (d : D)
structure En where
  vs : List Sv
  st : RSt
structure Exc where
  cls : Str
  fs : List (Str × D)
  outs : List D := []
inductive Out (α : Type) where
  | ok (a : α) (ρ : En)
  | ex (x : Exc) (ρ : En)
  | no
def Out.bind {α β : Type} (o : Out α) (f : α → En → Out β) : Out β := match o with
  | .ok a ρ => f a ρ
  | .ex x ρ => .ex x ρ
  | .no => .no
def Out.wp {α : Type} (o : Out α) (Q : α → En → Prop) (X : Exc → En → Prop) : Prop := match o with
  | .ok a ρ => Q a ρ
  | .ex x ρ => X x ρ
  | .no => False
theorem Out.wp_bind {α β : Type} {o : Out α} {f : α → En → Out β} {Q : β → En → Prop} {X : Exc → En → Prop} (h : (o.bind f).wp Q X) : o.wp (fun a ρ => (f a ρ).wp Q X) X := by
  cases o with
  | ok a ρ => exact h
  | ex x ρ => exact h
  | no => exact h
theorem Out.wp_mono {α : Type} {o : Out α} {Q Q' : α → En → Prop} {X X' : Exc → En → Prop} (h : o.wp Q X) (hq : ∀ a ρ, Q a ρ → Q' a ρ) (hx : ∀ x ρ, X x ρ → X' x ρ) : o.wp Q' X' := by
  cases o with
  | ok a ρ => exact hq _ _ h
  | ex x ρ => exact hx _ _ h
  | no => exact h
def RpV (S : Gs) (H Hs : Hp) (s : Sv) (ov : Option (Option V)) (F : List Addr) : Prop := match s with
  | .no => True
  | .sh d => ∃ v, ov = some (some v) ∧ Rp S H Hs d v []
  | .ow d => ∃ v, ov = some (some v) ∧ Rp S H Hs d v F
structure Bs where
  H0 : Hp
  S : Gs
  M : List Addr
  W : WX
  me : Nat → Option Addr := fun _ => none
  fo : Nat := 0
  fn : List Str := []
  fv : List V := []
  oa : Addr := 0
  oc : Addr := 0
def Bs.isL (B : Bs) (i : Nat) : Bool := B.fn.isEmpty || decide (i < B.fo)
def Bs.free (B : Bs) (is : List Nat) : Bool := is.all fun i => (B.me i).isNone && B.isL i
theorem Bs.free1 {B : Bs} {i : Nat} (h : B.free [i] = true) : B.me i = none := by
  unfold Bs.free at h
  simp at h
  exact h.1
theorem Bs.free2 {B : Bs} {i : Nat} (h : B.free [i] = true) : B.isL i = true := by
  unfold Bs.free at h
  simp at h
  exact h.2
theorem Bs.freeL {B : Bs} {is : List Nat} (h : B.free is = true) {i : Nat} (hi : i ∈ is) : B.me i = none := by
  unfold Bs.free at h
  have := List.all_eq_true.mp h i hi
  simp at this
  exact this.1
theorem Bs.freeI {B : Bs} {is : List Nat} (h : B.free is = true) {i : Nat} (hi : i ∈ is) : B.isL i = true := by
  unfold Bs.free at h
  have := List.all_eq_true.mp h i hi
  simp at this
  exact this.2
theorem Bs.free_cons {B : Bs} {i : Nat} {is : List Nat} (h : B.free (i :: is) = true) : B.free [i] = true ∧ B.free is = true := by
  unfold Bs.free at h ⊢
  simpa using h
def Bs.loc (B : Bs) (σ : L2.St) (i : Nat) : Option (Option V) := if i < B.fo then σ[i]? else if i < B.fo + B.fn.length then (B.fv[i - B.fo]?).map some else σ[i - B.fn.length]?
theorem Bs.loc_L {B : Bs} {σ : L2.St} {i : Nat} (h : B.isL i = true) : B.loc σ i = σ[i]? := by
  unfold Bs.isL at h
  unfold Bs.loc
  simp at h
  rcases h with h | h
  · rw [h]
    split
    · rfl
    · rw [if_neg (by simp; omega)]; rfl
  · rw [if_pos h]
theorem Bs.loc_congr {B : Bs} {σ σ' : L2.St} {i : Nat} (h : ∀ j, (j = i ∧ i < B.fo) ∨ (B.fo ≤ j ∧ i = j + B.fn.length) → σ'[j]? = σ[j]?) : B.loc σ' i = B.loc σ i := by
  unfold Bs.loc
  split
  · exact h i (.inl ⟨rfl, by assumption⟩)
  · split
    · rfl
    · exact h _ (.inr ⟨by omega, by omega⟩)
theorem Bs.loc_set {B : Bs} {σ : L2.St} {i j : Nat} {x : Option V} (h : B.isL i = true) (ne : i ≠ j) : B.loc (σ.set i x) j = B.loc σ j := by
  refine Bs.loc_congr fun k hk => List.getElem?_set_ne ?_
  unfold Bs.isL at h
  simp at h
  rcases h with h | h
  · rcases hk with ⟨rfl, _⟩ | ⟨_, e⟩
    · exact ne
    · rw [h] at e
      simp at e
      subst e
      exact ne
  · rcases hk with ⟨rfl, _⟩ | ⟨h2, e⟩
    · exact ne
    · omega
theorem Bs.loc_set_self {B : Bs} {σ : L2.St} {i : Nat} {x : Option V} (h : B.isL i = true) (hi : i < σ.length) : B.loc (σ.set i x) i = some x := by
  rw [Bs.loc_L h, List.getElem?_set_self hi]
def Bs.obj (B : Bs) (H : Hp) : Prop := B.fn = [] ∨ (B.oa ∈ B.M ∧ B.oa ∉ sA B.S ∧ ∃ dx, H B.oa = some (.ins B.oc dx (B.fn.zip B.fv)))
theorem Bs.obj_mono {B : Bs} {H H' : Hp} (h : B.obj H) (k : B.oa ∈ B.M → B.oa ∉ sA B.S → ∀ o, H B.oa = some o → H' B.oa = some o) : B.obj H' := by
  rcases h with h | ⟨h1, h2, dx, h3⟩
  · exact .inl h
  · exact .inr ⟨h1, h2, dx, k h1 h2 _ h3⟩
abbrev Tm := List (D × V)
abbrev Ix := Nat ⊕ Nat
def HLen (H : Hp) : Prop := ∀ a vs, H a = some (.lst vs) ∨ H a = some (.tup vs) → vs.length ≤ sizeLine
structure Pt (B : Bs) (T : Tm) (vs : List Sv) (σ : L2.St) (H : Hp) (F : List Addr) (fp : Ix → List Addr) : Prop where
  tm : ∀ (j : Nat) (d : D) (v : V), T[j]? = some (d, v) → Rp B.S H (hid (B.M ++ F) H) d v (fp (.inl j))
  sl : ∀ (i : Nat) (s : Sv), vs[i]? = some s → RpV B.S H (hid (B.M ++ F) H) s (B.loc σ i) (fp (.inr i))
  nd : ∀ i, (fp i).Nodup
  ap : ∀ i j a, a ∈ fp i → a ∈ fp j → i = j
  sub : ∀ i, ∀ a ∈ fp i, a ∈ F
def Nt (H : Hp) (a : Addr) : Prop := ∃ o, H a = some o ∧ ∀ vs, o ≠ .tup vs
theorem Nt.ne {H : Hp} {a : Addr} (h : Nt H a) : H a ≠ none := by
  obtain ⟨o, e, _⟩ := h
  rw [e]; simp
theorem Nt.up {H H' : Hp} {a : Addr} (h : Nt H a) (k : ∀ o, H a = some o → H' a = some o) : Nt H' a := by
  obtain ⟨o, e, n⟩ := h
  exact ⟨o, k o e, n⟩
theorem Nt.to {H H' : Hp} {a : Addr} (h : Nt H a) (k : H' a = H a) : Nt H' a := h.up fun o e => k.trans e
theorem Nt.of {H : Hp} {a : Addr} (h : H a ≠ none) (k : ∀ vs, H a ≠ some (.tup vs)) : Nt H a := by
  cases e : H a with
  | none => exact absurd e h
  | some o => exact ⟨o, e, fun vs z => k vs (z ▸ e)⟩
structure R (B : Bs) (T : Tm) (ρ : En) (σ : L2.St) (H : Hp) (F : List Addr) : Prop where
  len : σ.length + B.fn.length = ρ.vs.length
  fol : B.fn = [] ∨ B.fo ≤ σ.length
  obj : B.obj H
  pt : ∃ fp : Ix → List Addr, Pt B T ρ.vs σ H F fp
  dj : ∀ a ∈ B.M, a ∉ F
  sM : ∀ a ∈ sA B.S, a ∈ B.M
  md : ∀ a ∈ B.M, Nt H a
  st : StOk B.S ρ.st H
  ext : ∀ a o, B.H0 a = some o → a ∉ sA B.S → H a = some o
  new : ∀ a ∈ F, B.H0 a = none
  hl : HLen H
  own : ∀ a ∈ F, H a ≠ none
  pin : ∀ i a, B.me i = some a → σ[i]? = some (some (.ref a))
def RpB (B : Bs) (H : Hp) (F : List Addr) (d : D) (v : V) (G : List Addr) : Prop := Rp B.S H (hid (B.M ++ F) H) d v G ∧ ∀ a ∈ G, a ∈ F
section
variable {B : Bs} {T T' : Tm} {ρ : En} {σ : L2.St} {H H' : Hp} {F : List Addr}
theorem hid_mono {M : List Addr} (k : ∀ b o, H b = some o → H' b = some o) : ∀ a o, hid M H a = some o → hid M H' a = some o := fun a o h => by
  obtain ⟨h1, h2⟩ := hid_some h
  exact hid_of (k _ _ h2) h1
theorem RpV.mono {S : Gs} {Hs Hs' : Hp} {s : Sv} {ov : Option (Option V)} {G : List Addr} (h : RpV S H Hs s ov G) (k : ∀ a ∈ G, ∀ o, H a = some o → H' a = some o) (m : ∀ a o, Hs a = some o → Hs' a = some o) : RpV S H' Hs' s ov G := by
  cases s with
  | no => trivial
  | sh d => obtain ⟨v, e, r⟩ := h; exact ⟨v, e, r.mono (fun _ z => nomatch z) m⟩
  | ow d => obtain ⟨v, e, r⟩ := h; exact ⟨v, e, r.mono k m⟩
theorem R.drop (h : R B (T ++ T') ρ σ H F) : R B T ρ σ H F := by
  obtain ⟨fp, p⟩ := h.pt
  exact { h with pt := ⟨fp, { p with tm := fun j d v e => p.tm j d v (by
    have hj : j < T.length := (List.getElem?_eq_some_iff.mp e).1
    rw [List.getElem?_append_left hj]; exact e) }⟩ }
theorem R.drop1 {t : D × V} (h : R B (T ++ [t]) ρ σ H F) : R B T ρ σ H F := h.drop
theorem R.grow (h : R B T ρ σ H F) (k : ∀ b o, H b = some o → H' b = some o) (hl : HLen H') : R B T ρ σ H' F := by
  obtain ⟨fp, p⟩ := h.pt
  refine { h with pt := ⟨fp, { p with tm := fun j d v e => (p.tm j d v e).mono (fun a _ => k a) (hid_mono k), sl := fun i s e => (p.sl i s e).mono (fun a _ => k a) (hid_mono k) }⟩, st := h.st.mono fun a _ => k a, obj := h.obj.elim .inl fun ⟨h1, h2, dx, h3⟩ => .inr ⟨h1, h2, dx, k _ _ h3⟩, ext := fun a o e n => k _ _ (h.ext a o e n), hl := hl, own := fun a ha e => ?_, md := fun a ha => (h.md a ha).up fun o => k a o }
  · cases q : H a with
    | none => exact h.own a ha q
    | some o => rw [k a o q] at e; cases e
def fpSet (fp : Ix → List Addr) (i : Ix) (G : List Addr) : Ix → List Addr := fun j => if j = i then G else fp j
theorem fpSet_same {fp : Ix → List Addr} {i : Ix} {G : List Addr} : fpSet fp i G i = G := if_pos rfl
theorem fpSet_ne {fp : Ix → List Addr} {i j : Ix} {G : List Addr} (h : j ≠ i) : fpSet fp i G j = fp j := if_neg h
theorem last_get {T : Tm} {t : D × V} {j : Nat} {d : D} {v : V} (h : (T ++ [t])[j]? = some (d, v)) : (j < T.length ∧ T[j]? = some (d, v)) ∨ (j = T.length ∧ t = (d, v)) := by
  by_cases hj : j < T.length
  · rw [List.getElem?_append_left hj] at h; exact .inl ⟨hj, h⟩
  · rw [List.getElem?_append_right (Nat.le_of_not_lt hj)] at h
    have e : j - T.length = 0 := by
      have := (List.getElem?_eq_some_iff.mp h).1
      simpa using this
    rw [e] at h
    exact .inr ⟨by omega, by simpa using h⟩
theorem R.push {d : D} {v : V} (h : R B T ρ σ H F) (r : Rp B.S H (hid (B.M ++ F) H) d v []) : R B (T ++ [(d, v)]) ρ σ H F := by
  obtain ⟨fp, p⟩ := h.pt
  refine { h with pt := ⟨fpSet fp (.inl T.length) [], ⟨fun j d' v' e => ?_, fun i s e => ?_, fun i => ?_, fun i j a hi hj => ?_, fun i a hi => ?_⟩⟩ }
  · rcases last_get e with ⟨hj, e⟩ | ⟨ej, e⟩
    · rw [fpSet_ne (by intro z; cases z; omega)]; exact p.tm j _ _ e
    · cases e; rw [ej, fpSet_same]; exact r
  · rw [fpSet_ne (by intro z; cases z)]; exact p.sl i s e
  · by_cases hi : i = .inl T.length
    · rw [hi, fpSet_same]; exact List.nodup_nil
    · rw [fpSet_ne hi]; exact p.nd i
  · by_cases qi : i = .inl T.length
    · rw [qi, fpSet_same] at hi; cases hi
    · by_cases qj : j = .inl T.length
      · rw [qj, fpSet_same] at hj; cases hj
      · rw [fpSet_ne qi] at hi; rw [fpSet_ne qj] at hj; exact p.ap i j a hi hj
  · by_cases qi : i = .inl T.length
    · rw [qi, fpSet_same] at hi; cases hi
    · rw [fpSet_ne qi] at hi; exact p.sub i a hi
theorem Rp.scal {S : Gs} {Hs : Hp} {d : D} {v : V} (h : match d with | .non => v = .non | .bl b => v = .bl b | .int i => v = .int i | .str x => v = .str x | _ => False) : Rp S H Hs d v [] := by
  cases d <;> simp at h <;> subst h <;> constructor
theorem R.thaw {fp : Ix → List Addr} (h : R B T ρ σ H F) (p : Pt B T ρ.vs σ H F fp) (q : Ix → Bool) :
    ∃ F', (∀ a, a ∈ F' ↔ a ∈ F ∧ ∀ i, q i = true → a ∉ fp i) ∧ (∀ a o, hid (B.M ++ F) H a = some o → hid (B.M ++ F') H a = some o) ∧ (∀ i, q i = true → ∀ a ∈ fp i, ∀ o, H a = some o → hid (B.M ++ F') H a = some o) := by
  classical
  refine ⟨F.filter fun a => decide (∀ i, q i = true → a ∉ fp i), fun a => by simp, fun a o e => ?_, fun i hi a ha o e => ?_⟩
  · obtain ⟨n, e⟩ := hid_some e
    refine hid_of e fun m => n ?_
    rcases List.mem_append.mp m with m | m
    · exact List.mem_append_left _ m
    · exact List.mem_append_right _ (List.mem_filter.mp m).1
  · refine hid_of e fun m => ?_
    rcases List.mem_append.mp m with m | m
    · exact h.dj a m (p.sub i a ha)
    · exact of_decide_eq_true (List.mem_filter.mp m).2 i hi ha
theorem getElem?_set' {α : Type} {l : List α} {i j : Nat} {x y : α} (h : (l.set i x)[j]? = some y) : (i = j ∧ y = x) ∨ (i ≠ j ∧ l[j]? = some y) := by
  by_cases e : i = j
  · subst e
    rw [List.getElem?_set] at h
    simp at h
    exact .inl ⟨rfl, h.2.symm⟩
  · rw [List.getElem?_set_ne e] at h; exact .inr ⟨e, h⟩
theorem R.freeze {i : Nat} {d : D} (h : R B T ρ σ H F) (e : ρ.vs[i]? = some (.ow d)) : ∃ v F', B.loc σ i = some (some v) ∧ R B (T ++ [(frz d, v)]) { ρ with vs := ρ.vs.set i (.sh (frz d)) } σ H F' := by
  obtain ⟨fp, p⟩ := h.pt
  obtain ⟨v, ev, r⟩ := (show RpV _ _ _ (.ow d) _ _ from p.sl i _ e)
  obtain ⟨F', hF, m, k⟩ := h.thaw p fun j => decide (j = .inr i)
  have rz : Rp B.S H (hid (B.M ++ F') H) (frz d) v [] := r.frz (k (.inr i) (by simp)) m
  refine ⟨v, F', ev, R.push ?_ rz⟩
  refine { h with len := by simp [h.len], pt := ⟨fpSet fp (.inr i) [], ⟨fun j d' v' q => ?_, fun j s q => ?_, fun j => ?_, fun j l a hj hl => ?_, fun j a hj => ?_⟩⟩, dj := fun a ha q => h.dj a ha ((hF a).mp q).1, new := fun a ha => h.new a ((hF a).mp ha).1, own := fun a ha => h.own a ((hF a).mp ha).1 }
  · rw [fpSet_ne (by intro z; cases z)]
    exact (p.tm j _ _ q).mono (fun _ _ _ z => z) m
  · rcases getElem?_set' q with ⟨rfl, rfl⟩ | ⟨ne, q⟩
    · exact ⟨v, ev, rz⟩
    · rw [fpSet_ne (by intro z; cases z; exact ne rfl)]
      exact (p.sl j s q).mono (fun _ _ _ z => z) m
  · by_cases q : j = .inr i
    · rw [q, fpSet_same]; exact List.nodup_nil
    · rw [fpSet_ne q]; exact p.nd j
  · by_cases qj : j = .inr i
    · rw [qj, fpSet_same] at hj; cases hj
    · by_cases ql : l = .inr i
      · rw [ql, fpSet_same] at hl; cases hl
      · rw [fpSet_ne qj] at hj; rw [fpSet_ne ql] at hl; exact p.ap j l a hj hl
  · by_cases qj : j = .inr i
    · rw [qj, fpSet_same] at hj; cases hj
    · rw [fpSet_ne qj] at hj
      refine (hF a).mpr ⟨p.sub j a hj, fun l hl ha => qj ?_⟩
      rw [p.ap j l a hj ha]; exact of_decide_eq_true hl
theorem R.read {i : Nat} {d : D} (h : R B T ρ σ H F) (e : ρ.vs[i]? = some (.sh d)) : ∃ v, B.loc σ i = some (some v) ∧ R B (T ++ [(d, v)]) ρ σ H F := by
  obtain ⟨fp, p⟩ := h.pt
  obtain ⟨v, ev, r⟩ := (show RpV _ _ _ (.sh d) _ _ from p.sl i _ e)
  exact ⟨v, ev, h.push r⟩
def mkSv (d : D) : Sv := if shr d = true then .sh d else .ow d
theorem R.isLt {i : Nat} (h : R B T ρ σ H F) (hi : B.isL i = true) (k : i < ρ.vs.length) : i < σ.length := by
  have e := h.len
  have f := h.fol
  unfold Bs.isL at hi
  simp at hi
  rcases hi with z | z
  · rw [z] at e; simp at e; omega
  · rcases f with f | f
    · rw [f] at e; simp at e; omega
    · omega
theorem R.store {i : Nat} {d : D} {v : V} (h : R B (T ++ [(d, v)]) ρ σ H F) (hf : B.free [i] = true) : R B T { ρ with vs := ρ.vs.set i (mkSv d) } (σ.set i (some v)) H F := by
  obtain ⟨fp, p⟩ := h.pt
  have r := p.tm T.length d v (by simp)
  refine { h with len := by simp [h.len], fol := by simpa using h.fol, pin := fun j a q => (List.getElem?_set_ne (by rintro rfl; rw [Bs.free1 hf] at q; cases q)).trans (h.pin j a q), pt := ⟨fun j => if j = .inr i then fp (.inl T.length) else if j = .inl T.length then [] else fp j, ⟨fun j d' v' q => ?_, fun j s q => ?_, fun j => ?_, fun j l a hj hl => ?_, fun j a hj => ?_⟩⟩ }
  · have hj : j < T.length := (List.getElem?_eq_some_iff.mp q).1
    rw [if_neg (by intro z; cases z), if_neg (by intro z; cases z; omega)]
    exact p.tm j _ _ (by rw [List.getElem?_append_left hj]; exact q)
  · rcases getElem?_set' q with ⟨rfl, rfl⟩ | ⟨ne, q⟩
    · rw [if_pos rfl]
      have hi : i < σ.length := h.isLt (Bs.free2 hf) (by
        have := (List.getElem?_eq_some_iff.mp q).1
        simpa using this)
      have ev : B.loc (σ.set i (some v)) i = some (some v) := Bs.loc_set_self (Bs.free2 hf) hi
      unfold mkSv
      split
      · rename_i hs
        have e := r.shr hs
        rw [e] at r
        exact ⟨v, ev, r⟩
      · exact ⟨v, ev, r⟩
    · rw [if_neg (by intro z; cases z; exact ne rfl), if_neg (by intro z; cases z), Bs.loc_set (Bs.free2 hf) ne]
      exact p.sl j s q
  · split
    · exact p.nd _
    · split
      · exact List.nodup_nil
      · exact p.nd j
  · by_cases j1 : j = .inr i
    · rw [if_pos j1] at hj
      by_cases l1 : l = .inr i
      · rw [j1, l1]
      · rw [if_neg l1] at hl
        by_cases l2 : l = .inl T.length
        · rw [if_pos l2] at hl; cases hl
        · rw [if_neg l2] at hl
          exact absurd (p.ap _ _ a hj hl).symm l2
    · rw [if_neg j1] at hj
      by_cases j2 : j = .inl T.length
      · rw [if_pos j2] at hj; cases hj
      · rw [if_neg j2] at hj
        by_cases l1 : l = .inr i
        · rw [if_pos l1] at hl
          exact absurd (p.ap _ _ a hj hl) j2
        · rw [if_neg l1] at hl
          by_cases l2 : l = .inl T.length
          · rw [if_pos l2] at hl; cases hl
          · rw [if_neg l2] at hl; exact p.ap _ _ a hj hl
  · split at hj
    · exact p.sub _ _ hj
    · split at hj
      · cases hj
      · exact p.sub _ _ hj
def fgt (vs : List Sv) : List Nat → List Sv
  | [] => vs
  | i :: is => fgt (vs.set i .no) is
theorem R.forget (h : R B T ρ σ H F) (is : List Nat) : R B T { ρ with vs := fgt ρ.vs is } σ H F := by
  induction is generalizing ρ with
  | nil => exact h
  | cons i is ih =>
    refine ih (ρ := { ρ with vs := ρ.vs.set i .no }) ?_
    obtain ⟨fp, p⟩ := h.pt
    refine { h with len := by simp [h.len], pt := ⟨fp, { p with sl := fun j s q => ?_ }⟩ }
    rcases getElem?_set' q with ⟨rfl, rfl⟩ | ⟨ne, q⟩
    · trivial
    · exact p.sl j s q
theorem StOk.nt {S : Gs} {st : RSt} (h : StOk S st H) : ∀ a ∈ sA S, Nt H a := by
  obtain ⟨rs, cl⟩ := S
  match rs, h with
  | none, _ => intro a ha; cases ha
  | some (s, c), ⟨_, h2, h3⟩ =>
    intro a ha
    rcases List.mem_cons.mp ha with rfl | ha
    · exact ⟨_, h2, by intro vs; nofun⟩
    · rcases List.mem_cons.mp ha with rfl | ha
      · exact ⟨_, h3, by intro vs; nofun⟩
      · cases ha
theorem same_upd {p : Addr} {o : HO} (hp : H p = none) : ∀ b u, H b = some u → upd H p o b = some u := fun b u e => by
  rw [upd_ne (ne_of_none e hp)]; exact e
theorem HLen.upd {p : Addr} {o : HO} (h : HLen H) (k : ∀ vs, o = .lst vs ∨ o = .tup vs → vs.length ≤ sizeLine) : HLen (upd H p o) := fun a vs e => by
  by_cases q : a = p
  · subst q
    rw [upd_same] at e
    exact k vs (e.imp Option.some.inj Option.some.inj)
  · rw [upd_ne q] at e; exact h a vs e
theorem Pt.collect {vs : List Sv} {fp : Ix → List Addr} : ∀ {ts : Tm} {T : Tm}, Pt B (T ++ ts) vs σ H F fp → ∃ G, RpL B.S H (hid (B.M ++ F) H) (ts.map (·.1)) (ts.map (·.2)) G ∧ G.Nodup ∧ ∀ a ∈ G, ∃ j, T.length ≤ j ∧ a ∈ fp (.inl j)
  | [], T, p => ⟨[], .nil, List.nodup_nil, fun _ z => nomatch z⟩
  | (d, v) :: ts, T, p => by
    have p' : Pt B ((T ++ [(d, v)]) ++ ts) vs σ H F fp := by rw [List.append_assoc]; exact p
    obtain ⟨G, r, nd, w⟩ := Pt.collect p'
    have h := p.tm T.length d v (by simp)
    refine ⟨fp (.inl T.length) ++ G, .cons h r, ?_, fun a ha => ?_⟩
    · refine List.nodup_append.mpr ⟨p.nd _, nd, fun a ha b hb e => ?_⟩
      subst e
      obtain ⟨j, hj, q⟩ := w a hb
      have := p.ap _ _ a ha q
      cases this
      simp at hj
      omega
    · rcases List.mem_append.mp ha with ha | ha
      · exact ⟨T.length, Nat.le_refl _, ha⟩
      · obtain ⟨j, hj, q⟩ := w a ha
        exact ⟨j, by simp at hj; omega, q⟩
def fpCut (fp : Ix → List Addr) (n : Nat) : Ix → List Addr
  | .inl i => if i < n then fp (.inl i) else []
  | .inr i => fp (.inr i)
theorem fpCut_lt {fp : Ix → List Addr} {n i : Nat} (h : i < n) : fpCut fp n (.inl i) = fp (.inl i) := if_pos h
theorem R.make {ts : Tm} {p : Addr} {o : HO} {d : D} {keep : Bool} (h : R B (T ++ ts) ρ σ H F) (hp : H p = none) (ho : ∀ vs, o = .lst vs ∨ o = .tup vs → vs.length ≤ sizeLine)
    (mk : ∀ {H' Hs' : Hp} {G : List Addr}, H' p = some o → (keep = false → Hs' p = some o) → RpL B.S H' Hs' (ts.map (·.1)) (ts.map (·.2)) G → Rp B.S H' Hs' d (.ref p) (if keep = true then p :: G else G)) :
    R B (T ++ [(d, .ref p)]) ρ σ (upd H p o) (if keep = true then p :: F else F) := by
  have k := same_upd (o := o) hp
  have h1 := h.grow k (h.hl.upd ho)
  obtain ⟨fp, q⟩ := h1.pt
  obtain ⟨G, r, nd, w⟩ := q.collect
  have hpM : p ∉ B.M := fun z => (h.md p z).ne hp
  have hpF : p ∉ F := fun z => h.own p z hp
  have hsub : ∀ a ∈ G, a ∈ F := fun a ha => let ⟨j, _, e⟩ := w a ha; q.sub _ a e
  have hm : ∀ a o', hid (B.M ++ F) (upd H p o) a = some o' → (keep = true → a ≠ p) → hid (B.M ++ (if keep = true then p :: F else F)) (upd H p o) a = some o' := fun a o' e ne => by
    obtain ⟨n, e⟩ := hid_some e
    refine hid_of e fun m => n ?_
    rcases List.mem_append.mp m with m | m
    · exact List.mem_append_left _ m
    · split at m
      · rcases List.mem_cons.mp m with m | m
        · exact absurd m (ne (by assumption))
        · exact List.mem_append_right _ m
      · exact List.mem_append_right _ m
  obtain ⟨fp0, q0⟩ := h.pt
  obtain ⟨G0, r0, nd0, w0⟩ := q0.collect
  have hm0 : ∀ a o', hid (B.M ++ F) H a = some o' → hid (B.M ++ (if keep = true then p :: F else F)) (upd H p o) a = some o' := fun a o' e => by
    have e2 := hid_mono k a o' e
    exact hm a o' e2 fun _ z => by
      subst z
      rw [(hid_some e).2] at hp; cases hp
  have rG : RpL B.S (upd H p o) (hid (B.M ++ (if keep = true then p :: F else F)) (upd H p o)) (ts.map (·.1)) (ts.map (·.2)) G0 := r0.mono (fun a _ => k a) hm0
  have hsub0 : ∀ a ∈ G0, a ∈ F := fun a ha => let ⟨j, _, e⟩ := w0 a ha; q0.sub _ a e
  have new := mk (Hs' := hid (B.M ++ (if keep = true then p :: F else F)) (upd H p o)) upd_same (fun hk => by
    refine hid_of upd_same fun m => ?_
    rw [hk, if_neg (by simp)] at m
    rcases List.mem_append.mp m with m | m
    · exact hpM m
    · exact hpF m) rG
  have hn0 : (if keep = true then p :: G0 else G0).Nodup := by
    split
    · exact List.nodup_cons.mpr ⟨fun z => hpF (hsub0 p z), nd0⟩
    · exact nd0
  have memN : ∀ a, a ∈ (if keep = true then p :: G0 else G0) → (a = p ∧ keep = true) ∨ a ∈ G0 := fun a ha => by
    split at ha
    · rcases List.mem_cons.mp ha with e | e
      · exact .inl ⟨e, by assumption⟩
      · exact .inr e
    · exact .inr ha
  have memF : ∀ a, a ∈ (if keep = true then p :: F else F) → (a = p ∧ keep = true) ∨ a ∈ F := fun a ha => by
    split at ha
    · rcases List.mem_cons.mp ha with e | e
      · exact .inl ⟨e, by assumption⟩
      · exact .inr e
    · exact .inr ha
  have toF : ∀ a, a ∈ F → a ∈ (if keep = true then p :: F else F) := fun a ha => by
    split
    · exact List.mem_cons_of_mem _ ha
    · exact ha
  have key : ∀ i a, a ∈ fpSet (fpCut fp0 T.length) (.inl T.length) (if keep = true then p :: G0 else G0) i →
      (i = .inl T.length ∧ ((a = p) ∨ ∃ j, T.length ≤ j ∧ a ∈ fp0 (.inl j))) ∨ (i ≠ .inl T.length ∧ a ∈ fp0 i ∧ ∀ j, i = .inl j → j < T.length) := by
    intro i a ha
    by_cases q : i = .inl T.length
    · rw [q, fpSet_same] at ha
      refine .inl ⟨q, ?_⟩
      rcases memN a ha with ⟨z, _⟩ | z
      · exact .inl z
      · exact .inr (w0 a z)
    · rw [fpSet_ne q] at ha
      refine .inr ⟨q, ?_⟩
      cases i with
      | inl i =>
        unfold fpCut at ha
        dsimp only at ha
        split at ha
        · exact ⟨ha, fun j e => by cases e; assumption⟩
        · cases ha
      | inr i => exact ⟨ha, fun j e => by cases e⟩
  refine { len := h.len, fol := h.fol, obj := h1.obj, pt := ⟨fpSet (fpCut fp0 T.length) (.inl T.length) (if keep = true then p :: G0 else G0), ⟨fun j d' v' e => ?_, fun i s e => ?_, fun i => ?_, fun i j a hi hj => ?_, fun i a hi => ?_⟩⟩, dj := fun a ha z => ?_, sM := h.sM, md := h1.md, st := h1.st, ext := h1.ext, new := fun a ha => ?_, hl := h1.hl, own := fun a ha => ?_, pin := h.pin }
  · rcases last_get e with ⟨hj, e⟩ | ⟨ej, e⟩
    · rw [fpSet_ne (by intro z; cases z; exact Nat.lt_irrefl _ hj), fpCut_lt hj]
      exact (q0.tm j _ _ (by rw [List.getElem?_append_left hj]; exact e)).mono (fun a _ => k a) hm0
    · cases e
      rw [ej, fpSet_same]
      exact new
  · rw [fpSet_ne (by intro z; cases z)]
    exact (q0.sl i s e).mono (fun a _ => k a) hm0
  · by_cases q : i = .inl T.length
    · rw [q, fpSet_same]; exact hn0
    · rw [fpSet_ne q]
      cases i with
      | inl i =>
        unfold fpCut
        dsimp only
        split
        · exact q0.nd _
        · exact List.nodup_nil
      | inr i => exact q0.nd _
  · rcases key i a hi with ⟨ei, ki⟩ | ⟨ei, ki, li⟩
    · rcases key j a hj with ⟨ej, kj⟩ | ⟨ej, kj, lj⟩
      · rw [ei, ej]
      · rcases ki with e | ⟨l, hl, e⟩
        · exact absurd (e ▸ q0.sub _ _ kj) hpF
        · have := q0.ap _ _ a kj e
          have := lj l this
          omega
    · rcases key j a hj with ⟨ej, kj⟩ | ⟨ej, kj, lj⟩
      · rcases kj with e | ⟨l, hl, e⟩
        · exact absurd (e ▸ q0.sub _ _ ki) hpF
        · have := q0.ap _ _ a ki e
          have := li l this
          omega
      · exact q0.ap _ _ a ki kj
  · rcases key i a hi with ⟨ei, ki⟩ | ⟨ei, ki, li⟩
    · rw [ei, fpSet_same] at hi
      rcases memN a hi with ⟨e, hk⟩ | z
      · rw [if_pos hk, e]; exact List.mem_cons_self
      · exact toF a (hsub0 a z)
    · exact toF a (q0.sub _ a ki)
  · rcases memF a z with ⟨rfl, _⟩ | z
    · exact hpM ha
    · exact h.dj a ha z
  · rcases memF a ha with ⟨rfl, _⟩ | z
    · cases e : B.H0 a with
      | none => rfl
      | some o' =>
        by_cases hs : a ∈ sA B.S
        · exact absurd (h.sM a hs) hpM
        · rw [h.ext a o' e hs] at hp; cases hp
    · exact h.new a z
  · rcases memF a ha with ⟨rfl, _⟩ | z
    · rw [upd_same]; simp
    · exact h1.own a z
theorem R.mkLst {ts : Tm} {p : Addr} (h : R B (T ++ ts) ρ σ H F) (hp : H p = none) (hz : ts.length ≤ sizeLine) : R B (T ++ [(.lst true (ts.map (·.1)), .ref p)]) ρ σ (upd H p (.lst (ts.map (·.2)))) (p :: F) := by
  have := R.make (keep := true) (o := .lst (ts.map (·.2))) (d := .lst true (ts.map (·.1))) h hp (by intro vs e; rcases e with e | e <;> cases e; simpa using hz) fun e1 _ r => by rw [if_pos rfl]; exact .lstO e1 r
  rw [if_pos rfl] at this; exact this
theorem R.mkTup {ts : Tm} {p : Addr} (h : R B (T ++ ts) ρ σ H F) (hp : H p = none) (hz : ts.length ≤ sizeLine) : R B (T ++ [(.tup (ts.map (·.1)), .ref p)]) ρ σ (upd H p (.tup (ts.map (·.2)))) F := by
  have := R.make (keep := false) (o := .tup (ts.map (·.2))) (d := .tup (ts.map (·.1))) h hp (by intro vs e; rcases e with e | e <;> cases e; simpa using hz) fun e1 e2 r => by rw [if_neg (by simp)]; exact .tup (e2 rfl) r
  rw [if_neg (by simp)] at this; exact this
end
end Fw

namespace Fw
open PySem PySem.Spec PyProof.Rows L2
section
variable {B : Bs} {T T' : Tm} {ρ : En} {σ : L2.St} {H H' : Hp} {F : List Addr}
theorem hid_upd {M : List Addr} {a : Addr} {o : HO} (h : a ∈ M) : hid M (upd H a o) = hid M H := by
  funext b
  unfold hid
  split
  · rfl
  · rw [upd_ne (by rintro rfl; exact absurd h (by assumption))]
theorem R.mut {ts : Tm} {i : Nat} {d d' : D} {a : Addr} {o : HO} (h : R B (T ++ ts) ρ σ H F) (e : ρ.vs[i]? = some (.ow d)) (ev : B.loc σ i = some (some (.ref a)))
    (mk : ∀ {Hs : Hp} {G Gt : List Addr}, (∀ b o, Hs b = some o → H b = some o) → Rp B.S H Hs d (.ref a) G → RpL B.S H Hs (ts.map (·.1)) (ts.map (·.2)) Gt → G.Nodup → Gt.Nodup → (∀ x, x ∈ G → x ∉ Gt) →
      ∃ G', (∀ x ∈ G', x ∈ G ∨ x ∈ Gt) ∧ G'.Nodup ∧ a ∈ G ∧ ∀ {H' : Hp}, H' a = some o → (∀ b u, b ≠ a → H b = some u → H' b = some u) → Rp B.S H' Hs d' (.ref a) G')
    (ho : ∀ vs, o = .lst vs ∨ o = .tup vs → vs.length ≤ sizeLine) :
    R B T { ρ with vs := ρ.vs.set i (.ow d') } σ (upd H a o) F := by
  obtain ⟨fp, p⟩ := h.pt
  obtain ⟨v, ev', r⟩ := (show RpV _ _ _ (.ow d) _ _ from p.sl i _ e)
  rw [ev] at ev'; cases ev'
  obtain ⟨Gt, rt, ndt, wt⟩ := p.collect
  have cross : ∀ x, x ∈ fp (.inr i) → x ∉ Gt := fun x hx hm => by
    obtain ⟨j, _, q⟩ := wt x hm
    have := p.ap _ _ x hx q
    cases this
  obtain ⟨G', hG', nd', haG, mk⟩ := mk (fun _ _ z => (hid_some z).2) r rt (p.nd _) ndt cross
  have haF : a ∈ F := p.sub _ _ haG
  have hh : hid (B.M ++ F) (upd H a o) = hid (B.M ++ F) H := hid_upd (List.mem_append_right _ haF)
  have ne : ∀ b u, b ≠ a → H b = some u → upd H a o b = some u := fun b u n q => by rw [upd_ne n]; exact q
  have haM : a ∉ B.M := fun z => h.dj a z haF
  have hlt : ∀ j, j < T.length → ∀ x ∈ fp (.inl j), x ≠ a := fun j _ x hx z => by
    subst z
    have := p.ap _ _ x hx haG
    cases this
  have key : ∀ j x, x ∈ fpSet (fpCut fp T.length) (.inr i) G' j → (j = .inr i ∧ (x ∈ fp (.inr i) ∨ ∃ l, T.length ≤ l ∧ x ∈ fp (.inl l))) ∨ (j ≠ .inr i ∧ x ∈ fp j ∧ ∀ l, j = .inl l → l < T.length) := by
    intro j x hx
    by_cases q : j = .inr i
    · rw [q, fpSet_same] at hx
      refine .inl ⟨q, ?_⟩
      rcases hG' x hx with z | z
      · exact .inl z
      · exact .inr (wt x z)
    · rw [fpSet_ne q] at hx
      refine .inr ⟨q, ?_⟩
      cases j with
      | inl j =>
        unfold fpCut at hx
        dsimp only at hx
        split at hx
        · exact ⟨hx, fun l e => by cases e; assumption⟩
        · cases hx
      | inr j => exact ⟨hx, fun l e => by cases e⟩
  refine { h with len := by simp [h.len], pt := ⟨fpSet (fpCut fp T.length) (.inr i) G', ⟨fun j d1 v1 q => ?_, fun j s q => ?_, fun j => ?_, fun j l x hj hl => ?_, fun j x hj => ?_⟩⟩, obj := h.obj.elim .inl fun ⟨h1, h2, dx, h3⟩ => .inr ⟨h1, h2, dx, ne _ _ (by rintro rfl; exact haM h1) h3⟩, md := fun b hb => ?_, st := h.st.mono fun b hb u q => ?_, ext := fun b u q n => ?_, hl := h.hl.upd ho, own := fun b hb => ?_ }
  · have hj : j < T.length := (List.getElem?_eq_some_iff.mp q).1
    rw [fpSet_ne (by intro z; cases z), fpCut_lt hj, hh]
    exact (p.tm j _ _ (by rw [List.getElem?_append_left hj]; exact q)).mono (fun x hx u z => ne x u (hlt j hj x hx) z) fun _ _ z => z
  · rw [hh]
    rcases getElem?_set' q with ⟨rfl, rfl⟩ | ⟨nj, q⟩
    · rw [fpSet_same]
      exact ⟨_, ev, mk upd_same ne⟩
    · rw [fpSet_ne (by intro z; cases z; exact nj rfl)]
      refine (p.sl j s q).mono (fun x hx u z => ne x u ?_ z) fun _ _ z => z
      rintro rfl
      have := p.ap _ _ x hx haG
      cases this
      exact nj rfl
  · by_cases q : j = .inr i
    · rw [q, fpSet_same]; exact nd'
    · rw [fpSet_ne q]
      cases j with
      | inl j =>
        unfold fpCut
        dsimp only
        split
        · exact p.nd _
        · exact List.nodup_nil
      | inr j => exact p.nd _
  · rcases key j x hj with ⟨ej, kj⟩ | ⟨ej, kj, lj⟩
    · rcases key l x hl with ⟨el, kl⟩ | ⟨el, kl, ll⟩
      · rw [ej, el]
      · rcases kj with z | ⟨m, hm, z⟩
        · exact absurd (p.ap _ _ x z kl).symm el
        · have := p.ap _ _ x kl z
          have := ll m this
          omega
    · rcases key l x hl with ⟨el, kl⟩ | ⟨el, kl, ll⟩
      · rcases kl with z | ⟨m, hm, z⟩
        · exact absurd (p.ap _ _ x kj z) ej
        · have := p.ap _ _ x kj z
          have := lj m this
          omega
      · exact p.ap _ _ x kj kl
  · rcases key j x hj with ⟨ej, kj⟩ | ⟨ej, kj, lj⟩
    · rcases kj with z | ⟨m, hm, z⟩
      · exact p.sub _ _ z
      · exact p.sub _ _ z
    · exact p.sub _ _ kj
  · by_cases q : b = a
    · subst q; exact absurd hb haM
    · exact (h.md b hb).to (upd_ne q)
  · rw [upd_ne (by rintro rfl; exact haM (h.sM b hb))]; exact q
  · rw [upd_ne (by rintro rfl; rw [h.new b haF] at q; cases q)]; exact h.ext b u q n
  · by_cases q : b = a
    · rw [q, upd_same]; simp
    · rw [upd_ne q]; exact h.own b hb
theorem R.after {st' : RSt} {d : D} {v : V} {Fr : List Addr} (h : R B T ρ σ H F) (ext : ∀ a o, H a = some o → a ∉ sA B.S → H' a = some o) (stok : StOk B.S st' H') (hl : HLen H')
    (fresh : ∀ a ∈ Fr, H a = none) (nd : Fr.Nodup) (own : ∀ a ∈ Fr, H' a ≠ none) (r : Rp B.S H' (hid (B.M ++ (F ++ Fr)) H') d v Fr) : R B (T ++ [(d, v)]) { ρ with st := st' } σ H' (F ++ Fr) := by
  obtain ⟨fp, p⟩ := h.pt
  have frF : ∀ a ∈ Fr, a ∉ F := fun a ha z => h.own a z (fresh a ha)
  have frM : ∀ a ∈ Fr, a ∉ B.M := fun a ha z => (h.md a z).ne (fresh a ha)
  have up : ∀ a o, hid (B.M ++ F) H a = some o → hid (B.M ++ (F ++ Fr)) H' a = some o := fun a o e => by
    obtain ⟨n, e⟩ := hid_some e
    have nM : a ∉ B.M := fun z => n (List.mem_append_left _ z)
    refine hid_of (ext a o e fun z => nM (h.sM a z)) fun m => n ?_
    rcases List.mem_append.mp m with m | m
    · exact List.mem_append_left _ m
    · rcases List.mem_append.mp m with m | m
      · exact List.mem_append_right _ m
      · rw [fresh a m] at e; cases e
  have kF : ∀ a, a ∈ F → ∀ o, H a = some o → H' a = some o := fun a ha o e => ext a o e fun z => h.dj a (h.sM a z) ha
  have memN : ∀ i a, a ∈ fpSet fp (.inl T.length) Fr i → (i = .inl T.length ∧ a ∈ Fr) ∨ (i ≠ .inl T.length ∧ a ∈ fp i) := fun i a ha => by
    by_cases q : i = .inl T.length
    · rw [q, fpSet_same] at ha; exact .inl ⟨q, ha⟩
    · rw [fpSet_ne q] at ha; exact .inr ⟨q, ha⟩
  refine { h with pt := ⟨fpSet fp (.inl T.length) Fr, ⟨fun j d' v' e => ?_, fun i s e => ?_, fun i => ?_, fun i j a hi hj => ?_, fun i a hi => ?_⟩⟩, dj := fun a ha z => ?_, md := fun a ha => ?_, st := stok, obj := h.obj.elim .inl fun ⟨h1, h2, dx, h3⟩ => .inr ⟨h1, h2, dx, ext _ _ h3 h2⟩, ext := fun a o e n => ext a o (h.ext a o e n) n, new := fun a ha => ?_, hl := hl, own := fun a ha => ?_ }
  · rcases last_get e with ⟨hj, e⟩ | ⟨ej, e⟩
    · rw [fpSet_ne (by intro z; cases z; exact Nat.lt_irrefl _ hj)]
      exact (p.tm j _ _ e).mono (fun a ha => kF a (p.sub _ a ha)) up
    · cases e
      rw [ej, fpSet_same]; exact r
  · rw [fpSet_ne (by intro z; cases z)]
    exact (p.sl i s e).mono (fun a ha => kF a (p.sub _ a ha)) up
  · by_cases q : i = .inl T.length
    · rw [q, fpSet_same]; exact nd
    · rw [fpSet_ne q]; exact p.nd i
  · rcases memN i a hi with ⟨ei, ki⟩ | ⟨ei, ki⟩ <;> rcases memN j a hj with ⟨ej, kj⟩ | ⟨ej, kj⟩
    · rw [ei, ej]
    · exact absurd (p.sub _ _ kj) (frF a ki)
    · exact absurd (p.sub _ _ ki) (frF a kj)
    · exact p.ap _ _ a ki kj
  · rcases memN i a hi with ⟨ei, ki⟩ | ⟨ei, ki⟩
    · exact List.mem_append_right _ ki
    · exact List.mem_append_left _ (p.sub _ _ ki)
  · rcases List.mem_append.mp z with z | z
    · exact h.dj a ha z
    · exact frM a z ha
  · by_cases q : a ∈ sA B.S
    · exact stok.nt a q
    · exact (h.md a ha).up fun o e => ext a o e q
  · rcases List.mem_append.mp ha with z | z
    · exact h.new a z
    · cases e : B.H0 a with
      | none => rfl
      | some o =>
        by_cases q : a ∈ sA B.S
        · exact absurd (h.sM a q) (frM a z)
        · have := h.ext a o e q
          rw [fresh a z] at this; cases this
  · rcases List.mem_append.mp ha with z | z
    · intro q
      cases e : H a with
      | none => exact h.own a z e
      | some o => rw [kF a z o e] at q; cases q
    · exact own a z
inductive Opd where
  | val (f : En → Out D)
  | var (i : Nat)
  | itm (i j : Nat)
def Sv.get? : Sv → Option D
  | .no => none
  | .sh d => some d
  | .ow d => some d
def frz1 : Sv → Sv
  | .no => .no
  | .sh d => .sh d
  | .ow d => .sh (frz d)
def frzS (is : List Nat) : Nat → List Sv → List Sv
  | _, [] => []
  | n, s :: vs => (if is.contains n = true then frz1 s else s) :: frzS is (n + 1) vs
theorem frzS_get (is : List Nat) : ∀ (vs : List Sv) (n i : Nat), (frzS is n vs)[i]? = vs[i]?.map fun s => if is.contains (n + i) = true then frz1 s else s
  | [], n, i => by simp [frzS]
  | s :: vs, n, 0 => by simp [frzS]
  | s :: vs, n, i + 1 => by
    rw [frzS, List.getElem?_cons_succ, frzS_get is vs (n + 1) i, List.getElem?_cons_succ]
    rw [show n + 1 + i = n + (i + 1) by omega]
theorem frzS_len (is : List Nat) : ∀ (vs : List Sv) (n : Nat), (frzS is n vs).length = vs.length
  | [], n => rfl
  | s :: vs, n => by rw [frzS, List.length_cons, frzS_len is vs, List.length_cons]
def fz (d : D) : D := if shr d = true then d else frz d
inductive OpV (B : Bs) (ρ : En) (σ : L2.St) : List Opd → Tm → List D → List V → Prop
  | nil : OpV B ρ σ [] [] [] []
  | val {f : En → Out D} {ps : List Opd} {ts : Tm} {ds : List D} {vs : List V} {d : D} {v : V} (h : OpV B ρ σ ps ts ds vs) : OpV B ρ σ (.val f :: ps) ((d, v) :: ts) (d :: ds) (v :: vs)
  | var {i : Nat} {ps : List Opd} {ts : Tm} {ds : List D} {vs : List V} {s : Sv} {d : D} {v : V} (e : ρ.vs[i]? = some s) (g : s.get? = some d) (ev : B.loc σ i = some (some v)) (h : OpV B ρ σ ps ts ds vs) : OpV B ρ σ (.var i :: ps) ts (d :: ds) (v :: vs)
  | itm {i j : Nat} {ps : List Opd} {ts : Tm} {ds : List D} {vs : List V} {s : Sv} {xs : List D} {ws : List V} {a : Addr} {d : D} {v : V} (e : ρ.vs[i]? = some s) (g : s.get? = some (.tup xs)) (ej : xs[j]? = some d) (ev : B.loc σ i = some (some (.ref a))) (ew : ws[j]? = some v) (h : OpV B ρ σ ps ts ds vs) : OpV B ρ σ (.itm i j :: ps) ((.tv ws, .ref a) :: ts) (d :: ds) (v :: vs)
theorem RpV.item {S : Gs} {H Hs : Hp} {s : Sv} {xs : List D} {ws : List V} {a : Addr} {G G2 : List Addr} {o : Option (Option V)} {j : Nat} {d : D} {v : V} (r : RpV S H Hs s o G) (g : s.get? = some (.tup xs)) (ev : o = some (some (.ref a))) (ej : xs[j]? = some d) (ew : ws[j]? = some v) (rt : Rp S H Hs (.tv ws) (.ref a) G2) : ∃ G', Rp S H Hs d v G' ∧ (∀ b ∈ G', b ∈ G) ∧ (∀ xs', s = .sh xs' → G' = []) := by
  have hw : Hs a = some (.tup ws) := by cases rt; assumption
  cases s with
  | no => cases g
  | sh d1 =>
    cases g
    obtain ⟨v', e', r⟩ := r
    rw [ev] at e'; cases e'
    cases r with
    | tup h rl =>
      rw [hw] at h; cases h
      obtain ⟨v2, h1, h2⟩ := rl.get0 ej
      rw [ew] at h1; cases h1
      exact ⟨[], h2, (fun _ z => nomatch z), fun _ _ => rfl⟩
  | ow d1 =>
    cases g
    obtain ⟨v', e', r⟩ := r
    rw [ev] at e'; cases e'
    cases r with
    | tup h rl =>
      rw [hw] at h; cases h
      obtain ⟨v2, G', h1, h2, h3⟩ := rl.get ej
      rw [ew] at h1; cases h1
      exact ⟨G', h2, h3, fun xs' z => nomatch z⟩
theorem OpV.at {ps : List Opd} {ts : Tm} {ds : List D} {vs : List V} (h : R B (T ++ ts) ρ σ H F) (o : OpV B ρ σ ps ts ds vs) : ∀ (k : Nat) (d : D), ds[k]? = some d → ∃ v G, vs[k]? = some v ∧ RpB B H F d v G := by
  obtain ⟨fp, p⟩ := h.pt
  clear h
  induction o generalizing T with
  | nil => intro k d e; simp at e
  | @val f ps ts ds vs d v o ih =>
    intro k d' e
    cases k with
    | zero =>
      simp at e; subst e
      exact ⟨v, _, rfl, p.tm T.length d v (by simp), p.sub _⟩
    | succ k =>
      exact ih (T := T ++ [(d, v)]) (by rw [List.append_assoc]; exact p) k d' (by simpa using e)
  | @var i ps ts ds vs s d v es g ev o ih =>
    intro k d' e
    cases k with
    | zero =>
      simp at e; subst e
      have r := p.sl i s es
      cases s with
      | no => cases g
      | sh d1 =>
        cases g
        obtain ⟨v', e', r⟩ := r
        rw [ev] at e'; cases e'
        exact ⟨v, [], rfl, r, fun _ z => nomatch z⟩
      | ow d1 =>
        cases g
        obtain ⟨v', e', r⟩ := r
        rw [ev] at e'; cases e'
        exact ⟨v, _, rfl, r, p.sub _⟩
    | succ k => exact ih p k d' (by simpa using e)
  | @itm i j ps ts ds vs s xs ws a d v es g ej ev ew o ih =>
    intro k d' e
    cases k with
    | zero =>
      simp at e; subst e
      obtain ⟨G', h1, h2, _⟩ := (p.sl i s es).item g ev ej ew (p.tm T.length (.tv ws) (.ref a) (by simp))
      exact ⟨v, G', rfl, h1, fun b hb => p.sub _ b (h2 b hb)⟩
    | succ k =>
      exact ih (T := T ++ [(.tv ws, .ref a)]) (by rw [List.append_assoc]; exact p) k d' (by simpa using e)
theorem OpV.len {ps : List Opd} {ts : Tm} {ds : List D} {vs : List V} (o : OpV B ρ σ ps ts ds vs) : ds.length = vs.length := by
  induction o with
  | nil => rfl
  | val _ ih => simp [ih]
  | var _ _ _ _ ih => simp [ih]
  | itm _ _ _ _ _ _ ih => simp [ih]
def isVar : List Opd → List Nat
  | [] => []
  | .val _ :: ps => isVar ps
  | .var i :: ps => i :: isVar ps
  | .itm i _ :: ps => i :: isVar ps
theorem R.shareOps {ps : List Opd} {ts : Tm} {ds : List D} {vs : List V} (h : R B (T ++ ts) ρ σ H F) (o : OpV B ρ σ ps ts ds vs) (is : List Nat) (hi : ∀ i ∈ isVar ps, i ∈ is) :
    ∃ F', R B T { ρ with vs := frzS is 0 ρ.vs } σ H F' ∧ RpL B.S H (hid (B.M ++ F') H) (ds.map fz) vs [] ∧ ∀ a ∈ F', a ∈ F := by
  obtain ⟨fp, p⟩ := h.pt
  let q : Ix → Bool := fun j => match j with | .inl j => decide (T.length ≤ j) | .inr i => is.contains i
  obtain ⟨F', hF, m, k⟩ := h.thaw p q
  have fzr : ∀ {d : D} {v : V} {ix : Ix}, q ix = true → Rp B.S H (hid (B.M ++ F) H) d v (fp ix) → Rp B.S H (hid (B.M ++ F') H) (fz d) v [] := fun {d v ix} hq r => by
    unfold fz
    split
    · rename_i hs
      have e := r.shr hs
      rw [e] at r
      exact r.mono (fun _ z => nomatch z) m
    · exact r.frz (k ix hq) m
  refine ⟨F', { h with len := by rw [frzS_len]; exact h.len, pt := ⟨fun j => if q j = true then [] else fp j, ⟨fun j d v e => ?_, fun i s e => ?_, fun j => ?_, fun j l a hj hl => ?_, fun j a hj => ?_⟩⟩, dj := fun a ha z => h.dj a ha ((hF a).mp z).1, new := fun a ha => h.new a ((hF a).mp ha).1, own := fun a ha => h.own a ((hF a).mp ha).1 }, ?_, fun a ha => ((hF a).mp ha).1⟩
  · have hj : j < T.length := (List.getElem?_eq_some_iff.mp e).1
    rw [if_neg (by show ¬ decide (T.length ≤ j) = true; simp; omega)]
    exact (p.tm j d v (by rw [List.getElem?_append_left hj]; exact e)).mono (fun _ _ _ z => z) m
  · rw [frzS_get] at e
    cases e1 : ρ.vs[i]? with
    | none => rw [e1] at e; cases e
    | some s0 =>
      rw [e1] at e
      simp only [Option.map_some, Nat.zero_add, Option.some.injEq] at e
      have r := p.sl i s0 e1
      by_cases hq : is.contains i = true
      · rw [if_pos hq] at e
        subst e
        rw [if_pos (show q (.inr i) = true from hq)]
        cases s0 with
        | no => trivial
        | sh d => exact r.mono (fun _ _ _ z => z) m
        | ow d =>
          obtain ⟨v, ev, r⟩ := r
          exact ⟨v, ev, r.frz (k (.inr i) hq) m⟩
      · rw [if_neg hq] at e
        subst e
        rw [if_neg (show ¬ q (.inr i) = true from hq)]
        exact r.mono (fun _ _ _ z => z) m
  · split
    · exact List.nodup_nil
    · exact p.nd j
  · split at hj
    · cases hj
    · split at hl
      · cases hl
      · exact p.ap _ _ a hj hl
  · split at hj
    · cases hj
    · rename_i hq
      refine (hF a).mpr ⟨p.sub j a hj, fun l hl ha => hq ?_⟩
      rw [p.ap j l a hj ha]; exact hl
  · clear h
    have gen : ∀ (T0 : Tm), T.length ≤ T0.length → Pt B (T0 ++ ts) ρ.vs σ H F fp → RpL B.S H (hid (B.M ++ F') H) (ds.map fz) vs [] := by
      intro T0 hT0 p0
      clear p
      induction o generalizing T0 with
      | nil => exact .nil
      | @val f ps ts ds vs d v o ih =>
        refine .cons0 (fzr (ix := .inl T0.length) (by show decide _ = true; simpa using hT0) (p0.tm T0.length d v (by simp))) (ih (fun i hi' => hi i hi') (T0 ++ [(d, v)]) (by simp; omega) (by rw [List.append_assoc]; exact p0))
      | @var i ps ts ds vs s d v es g ev o ih =>
        refine .cons0 ?_ (ih (fun i hi' => hi i (List.mem_cons_of_mem _ hi')) T0 hT0 p0)
        have r := p0.sl i s es
        cases s with
        | no => cases g
        | sh d1 =>
          cases g
          obtain ⟨v', e', r⟩ := r
          rw [ev] at e'; cases e'
          unfold fz
          split
          · exact r.mono (fun _ z => nomatch z) m
          · exact r.frz (fun _ z => nomatch z) m
        | ow d1 =>
          cases g
          obtain ⟨v', e', r⟩ := r
          rw [ev] at e'; cases e'
          refine fzr (ix := .inr i) ?_ r
          show is.contains i = true
          simpa using hi i (List.mem_cons_self)
      | @itm i j ps ts ds vs s xs ws a d v es g ej ev ew o ih =>
        refine .cons0 ?_ (ih (fun i hi' => hi i (List.mem_cons_of_mem _ hi')) (T0 ++ [(.tv ws, .ref a)]) (by simp; omega) (by rw [List.append_assoc]; exact p0))
        obtain ⟨G', h1, h2, h3⟩ := (p0.sl i s es).item g ev ej ew (p0.tm T0.length (.tv ws) (.ref a) (by simp))
        have hq : q (.inr i) = true := by show is.contains i = true; simpa using hi i (List.mem_cons_self)
        unfold fz
        split
        · rename_i hs
          have e := h1.shr hs
          rw [e] at h1
          exact h1.mono (fun _ z => nomatch z) m
        · exact h1.frz (fun b hb => k (.inr i) hq b (h2 b hb)) m
    exact gen T (Nat.le_refl _) p
end
end Fw

namespace Fw
open PySem PySem.Spec PyProof.Rows L2
def XR (S : Gs) (x : Exc) (cls : Value) (d : Option Addr) (H : Hp) : Prop := cls = .ref (S.cl x.cls) ∧ S.cl x.cls ≠ 0 ∧ match d with
  | none => x.fs = []
  | some a => ∃ fvs, H a = some (.xd fvs) ∧ fvs.map (·.1) = x.fs.map (·.1) ∧ (x.fs.map fun p => scV p.2) = fvs.map fun p => some p.2
theorem XR.mono {S : Gs} {x : Exc} {cls : Value} {d : Option Addr} {H H' : Hp} (h : XR S x cls d H) (k : ∀ a o, H a = some o → H' a = some o) : XR S x cls d H' := by
  refine ⟨h.1, h.2.1, ?_⟩
  have := h.2.2
  cases d with
  | none => exact this
  | some a =>
    obtain ⟨fvs, e, r⟩ := this
    exact ⟨fvs, k _ _ e, r⟩
def exQ (B : Bs) (T : Tm) (σ : L2.St) : Exc → En → Prop := fun x ρ => ∀ cls d H F, XR B.S x cls d (hid (B.M ++ F) H) → R B T ρ σ H F → B.W cls d σ H
inductive Fl where
  | nx | rt (d : D) | bk | ct
def cE (B : Bs) (f : En → Out D) : TE := fun σ H Q => ∃ T ρ F, R B T ρ σ H F ∧ (f ρ).wp (fun d ρ' => ∀ v H' F', R B (T ++ [(d, v)]) ρ' σ H' F' → Q v H') (exQ B T σ)
def cT (B : Bs) (f : En → Out Bool) : TT := fun σ H Q => ∃ T ρ F, R B T ρ σ H F ∧ (f ρ).wp (fun b ρ' => ∀ H' F', R B T ρ' σ H' F' → Q b H') (exQ B T σ)
def slQ (B : Bs) (T : Tm) (D' : Ends) : Fl → En → Prop := fun fl ρ => match fl with
  | .nx => ∀ σ H F, R B T ρ σ H F → D'.nx σ H
  | .rt d => ∀ v σ H F, R B (T ++ [(d, v)]) ρ σ H F → D'.rt v H
  | .bk => ∀ σ H F, R B T ρ σ H F → D'.bk σ H
  | .ct => ∀ σ H F, R B T ρ σ H F → D'.ct σ H
def sxQ (B : Bs) (T : Tm) : Exc → En → Prop := fun x ρ => ∀ cls d σ H F, XR B.S x cls d (hid (B.M ++ F) H) → R B T ρ σ H F → B.W cls d σ H
def cS (B : Bs) (f : En → Out Fl) : TS := fun D' σ H => ∃ T ρ F, R B T ρ σ H F ∧ (f ρ).wp (slQ B T D') (sxQ B T)
section
variable {X : Cx} {B : Bs}
theorem _root_.L2.PE.imp {e : Expr} {t t' : TE} (h : PE X e t) (w : ∀ σ H Q, t' σ H Q → t σ H Q) : PE X e t' := ⟨fun pins s σ H Q I q => h.run pins s σ H Q I (w _ _ _ q)⟩
theorem _root_.L2.PT.imp {e : Expr} {t t' : TT} (h : PT X e t) (w : ∀ σ H Q, t' σ H Q → t σ H Q) : PT X e t' := ⟨fun pins s σ H Q I q => h.run pins s σ H Q I (w _ _ _ q)⟩
theorem _root_.L2.PA.imp {e : List Expr} {t t' : TA} (h : PA X e t) (w : ∀ σ H Q, t' σ H Q → t σ H Q) : PA X e t' := ⟨fun pos pins s σ H Q I q => h.run pos pins s σ H Q I (w _ _ _ q)⟩
theorem _root_.L2.PS.imp {e : Stmt} {t t' : TS} (h : PS X e t) (w : ∀ D' σ H, t' D' σ H → t D' σ H) : PS X e t' := ⟨fun pins s σ H D' I q => h.run pins s σ H D' I (w _ _ _ q)⟩
theorem _root_.L2.PSs.imp {e : List Stmt} {t t' : TS} (h : PSs X e t) (w : ∀ D' σ H, t' D' σ H → t D' σ H) : PSs X e t' := ⟨fun pins s σ H D' I q => h.run pins s σ H D' I (w _ _ _ q)⟩
theorem R.dropMid {T fr : Tm} {t : D × V} {ρ : En} {σ : L2.St} {H : Hp} {F : List Addr} (h : R B (T ++ fr ++ [t]) ρ σ H F) : R B (T ++ [t]) ρ σ H F := by
  obtain ⟨fp, p⟩ := h.pt
  refine { h with pt := ⟨fun j => match j with | .inl j => if j = T.length then fp (.inl (T ++ fr).length) else if j < T.length then fp (.inl j) else [] | .inr i => fp (.inr i), ⟨fun j d v e => ?_, fun i s e => p.sl i s e, fun j => ?_, fun j l a hj hl => ?_, fun j a hj => ?_⟩⟩ }
  · rcases last_get e with ⟨hj, e⟩ | ⟨ej, e⟩
    · show Rp _ _ _ _ _ (if j = T.length then _ else if j < T.length then _ else _)
      rw [if_neg (by omega), if_pos hj]
      exact p.tm j d v (by rw [List.append_assoc, List.getElem?_append_left hj]; exact e)
    · show Rp _ _ _ _ _ (if j = T.length then _ else if j < T.length then _ else _)
      rw [if_pos ej]
      exact p.tm _ d v (by rw [List.getElem?_append_right (Nat.le_refl _)]; simp [e])
  · cases j with
    | inr i => exact p.nd _
    | inl j =>
      dsimp only
      split
      · exact p.nd _
      · split
        · exact p.nd _
        · exact List.nodup_nil
  · have key : ∀ j a, a ∈ (match j with | .inl j => if j = T.length then fp (.inl (T ++ fr).length) else if j < T.length then fp (.inl j) else [] | .inr i => fp (.inr i) : List Addr) →
        (j = .inl T.length ∧ a ∈ fp (.inl (T ++ fr).length)) ∨ ((∀ l, j = .inl l → l < T.length) ∧ a ∈ fp j) := by
      intro j a ha
      cases j with
      | inr i => exact .inr ⟨(fun l z => by cases z), ha⟩
      | inl j =>
        dsimp only at ha
        split at ha
        · rename_i z; exact .inl ⟨(by rw [z]), ha⟩
        · split at ha
          · exact .inr ⟨(fun l z => by cases z; assumption), ha⟩
          · cases ha
    have hT : T.length ≤ (T ++ fr).length := by simp
    rcases key j a hj with ⟨ej, kj⟩ | ⟨ej, kj⟩ <;> rcases key l a hl with ⟨el, kl⟩ | ⟨el, kl⟩
    · rw [ej, el]
    · have := p.ap _ _ a kj kl
      have := el _ this.symm
      omega
    · have := p.ap _ _ a kl kj
      have := ej _ this.symm
      omega
    · exact p.ap _ _ a kj kl
  · cases j with
    | inr i => exact p.sub _ _ hj
    | inl j =>
      dsimp only at hj
      split at hj
      · exact p.sub _ _ hj
      · split at hj
        · exact p.sub _ _ hj
        · cases hj
def Bs.at (B : Bs) (σ : L2.St) (H : Hp) : Prop := (∀ i a, B.me i = some a → σ[i]? = some (some (.ref a))) ∧ B.obj H
theorem R.at {T : Tm} {ρ : En} {σ : L2.St} {H : Hp} {F : List Addr} (h : R B T ρ σ H F) : B.at σ H := ⟨h.pin, h.obj⟩
def tL (B : Bs) (i : Nat) : TE := fun σ H Q => ∃ v, B.loc σ i = some (some v) ∧ B.at σ H ∧ Q v H
theorem plv {e : Expr} {i : Nat} (h : PE X e (tVar i)) (hi : B.isL i = true := by rfl) : PE X e (tL B i) := h.imp fun σ H Q ⟨v, e, _, q⟩ => ⟨v, by rw [← Bs.loc_L hi]; exact e, q⟩
def evVar (i : Nat) : En → Out D := fun ρ => match ρ.vs[i]? with
  | some (.sh d) => .ok d ρ
  | some (.ow d) => .ok (frz d) { ρ with vs := ρ.vs.set i (.sh (frz d)) }
  | _ => .no
theorem ev_var {e : Expr} {i : Nat} (h : PE X e (tL B i)) : PE X e (cE B (evVar i)) := by
  refine h.imp fun σ H Q ⟨T, ρ, F, r, q⟩ => ?_
  unfold evVar at q
  split at q
  · rename_i d e
    obtain ⟨v, ev, r'⟩ := r.read e
    exact ⟨v, ev, r.at, q _ _ _ r'⟩
  · rename_i d e
    obtain ⟨v, F', ev, r'⟩ := r.freeze e
    exact ⟨v, ev, r.at, q _ _ _ r'⟩
  · exact q.elim
def evC (d : D) : En → Out D := fun ρ => .ok d ρ
theorem ev_int {i j pos} : PE X (.Constant (.int i) j pos) (cE B (evC (.int i))) := pe_int.imp fun σ H Q ⟨T, ρ, F, r, q⟩ => q _ _ _ (r.push (.int i))
theorem ev_bl {i j pos} : PE X (.Constant (.bool i) j pos) (cE B (evC (.bl i))) := pe_bl.imp fun σ H Q ⟨T, ρ, F, r, q⟩ => q _ _ _ (r.push (.bl i))
theorem ev_non {j pos} : PE X (.Constant .none j pos) (cE B (evC .non)) := pe_non.imp fun σ H Q ⟨T, ρ, F, r, q⟩ => q _ _ _ (r.push .non)
theorem ev_str {x j pos} : PE X (.Constant (.str x) j pos) (cE B (evC (.str x))) := pe_str.imp fun σ H Q ⟨T, ρ, F, r, q⟩ => q _ _ _ (r.push (.str x))
theorem ev_gstr {x y : Str} {t : Tok} {pos : Pos} (hg : Gl X x) (hm : X.mg x = some (.str y t)) (hd : (x == ("__debug__" : Str)) = false := by decide) : PE X (.Name x pos) (cE B (evC (.str y))) :=
  (pe_glob (v := .str y) hg hm ⟨_, rfl⟩ hd).imp fun σ H Q ⟨T, ρ, F, r, q⟩ => q _ _ _ (r.push (.str y))
def evMove (i : Nat) : En → Out D := fun ρ => match ρ.vs[i]? with
  | some (.sh d) => .ok d ρ
  | some (.ow d) => .ok d { ρ with vs := ρ.vs.set i .no }
  | _ => .no
theorem R.take {T : Tm} {ρ : En} {σ : L2.St} {H : Hp} {F : List Addr} {i : Nat} {d : D} (h : R B T ρ σ H F) (e : ρ.vs[i]? = some (.ow d)) : ∃ v, B.loc σ i = some (some v) ∧ R B (T ++ [(d, v)]) { ρ with vs := ρ.vs.set i .no } σ H F := by
  obtain ⟨fp, p⟩ := h.pt
  obtain ⟨v, ev, r⟩ := (show RpV _ _ _ (.ow d) _ _ from p.sl i _ e)
  refine ⟨v, ev, { h with len := by simp [h.len], pt := ⟨fpSet (fpSet fp (.inl T.length) (fp (.inr i))) (.inr i) [], ⟨fun j d' v' q => ?_, fun j s q => ?_, fun j => ?_, fun j l a hj hl => ?_, fun j a hj => ?_⟩⟩ }⟩
  · rw [fpSet_ne (by intro z; cases z)]
    rcases last_get q with ⟨hj, q⟩ | ⟨ej, q⟩
    · rw [fpSet_ne (by intro z; cases z; exact Nat.lt_irrefl _ hj)]; exact p.tm j _ _ q
    · cases q; rw [ej, fpSet_same]; exact r
  · rcases getElem?_set' q with ⟨rfl, rfl⟩ | ⟨ne, q⟩
    · trivial
    · rw [fpSet_ne (by intro z; cases z; exact ne rfl), fpSet_ne (by intro z; cases z)]; exact p.sl j s q
  · by_cases q1 : j = .inr i
    · rw [q1, fpSet_same]; exact List.nodup_nil
    · rw [fpSet_ne q1]
      by_cases q2 : j = .inl T.length
      · rw [q2, fpSet_same]; exact p.nd _
      · rw [fpSet_ne q2]; exact p.nd _
  · have key : ∀ j a, a ∈ fpSet (fpSet fp (.inl T.length) (fp (.inr i))) (.inr i) [] j → j ≠ .inr i ∧ ((j = .inl T.length ∧ a ∈ fp (.inr i)) ∨ (j ≠ .inl T.length ∧ a ∈ fp j)) := fun j a ha => by
      by_cases q1 : j = .inr i
      · rw [q1, fpSet_same] at ha; cases ha
      · rw [fpSet_ne q1] at ha
        refine ⟨q1, ?_⟩
        by_cases q2 : j = .inl T.length
        · rw [q2, fpSet_same] at ha; exact .inl ⟨q2, ha⟩
        · rw [fpSet_ne q2] at ha; exact .inr ⟨q2, ha⟩
    obtain ⟨nj, kj⟩ := key j a hj
    obtain ⟨nl, kl⟩ := key l a hl
    rcases kj with ⟨ej, kj⟩ | ⟨ej, kj⟩ <;> rcases kl with ⟨el, kl⟩ | ⟨el, kl⟩
    · rw [ej, el]
    · exact absurd (p.ap _ _ a kj kl).symm nl
    · exact absurd (p.ap _ _ a kj kl) nj
    · exact p.ap _ _ a kj kl
  · by_cases q1 : j = .inr i
    · rw [q1, fpSet_same] at hj; cases hj
    · rw [fpSet_ne q1] at hj
      by_cases q2 : j = .inl T.length
      · rw [q2, fpSet_same] at hj; exact p.sub _ _ hj
      · rw [fpSet_ne q2] at hj; exact p.sub _ _ hj
theorem ev_move {e : Expr} {i : Nat} (h : PE X e (tL B i)) : PE X e (cE B (evMove i)) := by
  refine h.imp fun σ H Q ⟨T, ρ, F, r, q⟩ => ?_
  unfold evMove at q
  split at q
  · rename_i d e
    obtain ⟨v, ev, r'⟩ := r.read e
    exact ⟨v, ev, r.at, q _ _ _ r'⟩
  · rename_i d e
    obtain ⟨v, ev, r'⟩ := r.take e
    exact ⟨v, ev, r.at, q _ _ _ r'⟩
  · exact q.elim
theorem R.there {T : Tm} {ρ : En} {σ : L2.St} {H : Hp} {F : List Addr} {i : Nat} {s : Sv} {d : D} (h : R B T ρ σ H F) (e : ρ.vs[i]? = some s) (g : s.get? = some d) : ∃ v, B.loc σ i = some (some v) := by
  obtain ⟨fp, p⟩ := h.pt
  have q := p.sl i _ e
  cases s with
  | no => cases g
  | sh d => exact ⟨q.choose, q.choose_spec.1⟩
  | ow d => exact ⟨q.choose, q.choose_spec.1⟩
def itmD (j : Nat) : Option Sv → Option D
  | some (.sh (.tup xs)) => xs[j]?
  | some (.ow (.tup xs)) => xs[j]?
  | _ => none
theorem itmD_some {j : Nat} {s : Option Sv} {d : D} (h : itmD j s = some d) : ∃ s' xs, s = some s' ∧ s'.get? = some (.tup xs) ∧ xs[j]? = some d := by
  unfold itmD at h
  split at h
  · exact ⟨_, _, rfl, rfl, h⟩
  · exact ⟨_, _, rfl, rfl, h⟩
  · cases h
theorem R.item {T : Tm} {ρ : En} {σ : L2.St} {H : Hp} {F : List Addr} {i j : Nat} {s : Sv} {xs : List D} {d : D} (h : R B T ρ σ H F) (e : ρ.vs[i]? = some s) (g : s.get? = some (.tup xs)) (ej : xs[j]? = some d) : ∃ a ws v, B.loc σ i = some (some (.ref a)) ∧ H a = some (.tup ws) ∧ ws[j]? = some v ∧ R B (T ++ [(.tv ws, .ref a)]) ρ σ H F := by
  obtain ⟨fp, p⟩ := h.pt
  have q := p.sl i _ e
  cases s with
  | no => cases g
  | sh d1 =>
    cases g
    obtain ⟨v', e', r⟩ := q
    cases r with
    | tup h1 rl =>
      obtain ⟨v2, G2, h2, h3, _⟩ := rl.get ej
      exact ⟨_, _, v2, e', (hid_some h1).2, h2, h.push (.tv h1)⟩
  | ow d1 =>
    cases g
    obtain ⟨v', e', r⟩ := q
    cases r with
    | tup h1 rl =>
      obtain ⟨v2, G2, h2, h3, _⟩ := rl.get ej
      exact ⟨_, _, v2, e', (hid_some h1).2, h2, h.push (.tv h1)⟩
def evOps : List Opd → En → Out (List D)
  | [], ρ => .ok [] ρ
  | .val f :: ps, ρ => (f ρ).bind fun d ρ1 => (evOps ps ρ1).bind fun ds ρ2 => .ok (d :: ds) ρ2
  | .var i :: ps, ρ => match ρ.vs[i]?.bind Sv.get? with
    | none => .no
    | some _ => (evOps ps ρ).bind fun ds ρ2 => match ρ2.vs[i]?.bind Sv.get? with
      | some d => .ok (d :: ds) ρ2
      | none => .no
  | .itm i j :: ps, ρ => match itmD j ρ.vs[i]? with
    | none => .no
    | some _ => (evOps ps ρ).bind fun ds ρ2 => match itmD j ρ2.vs[i]? with
      | some d => .ok (d :: ds) ρ2
      | none => .no
def tItm (B : Bs) (i j : Nat) : TE := fun σ H Q => ∃ a ws v, B.loc σ i = some (some (.ref a)) ∧ B.at σ H ∧ H a = some (.tup ws) ∧ ws[j]? = some v ∧ Q v H
def tOpd (B : Bs) : Opd → TE
  | .val f => cE B f
  | .var i => tL B i
  | .itm i j => tItm B i j
def tOps (B : Bs) : List Opd → TA
  | [] => tNil
  | p :: ps => tCons (tOpd B p) (tOps B ps)
theorem ops_run {ps : List Opd} : ∀ {T : Tm} {ρ : En} {σ : L2.St} {H : Hp} {F : List Addr} {K : List V → Hp → Prop}, R B T ρ σ H F →
    (evOps ps ρ).wp (fun ds ρ' => ∀ vs H' F' ts, R B (T ++ ts) ρ' σ H' F' → OpV B ρ' σ ps ts ds vs → K vs H') (exQ B T σ) → tOps B ps σ H K := by
  induction ps with
  | nil => intro T ρ σ H F K r q; exact q [] H F [] (by simpa using r) .nil
  | cons p ps ih =>
    intro T ρ σ H F K r q
    cases p with
    | val f =>
      have q := Out.wp_bind q
      refine ⟨T, ρ, F, r, Out.wp_mono q (fun d ρ1 q v H1 F1 r1 => ?_) fun _ _ z => z⟩
      have q := Out.wp_bind q
      refine ih r1 (Out.wp_mono q (fun ds ρ2 q vs H2 F2 ts r2 o => ?_) fun x ρ2 z cls d H F xr r => ?_)
      · exact q (v :: vs) H2 F2 ((d, v) :: ts) (by rw [List.append_assoc] at r2; exact r2) (.val o)
      · exact z cls d H F xr r.drop
    | var i =>
      show ∃ v, B.loc σ i = some (some v) ∧ B.at σ H ∧ tOps B ps σ H fun xs H2 => K (v :: xs) H2
      rw [evOps] at q
      split at q
      · exact q.elim
      · rename_i d0 e0
        obtain ⟨s0, es, eg⟩ := Option.bind_eq_some_iff.mp e0
        obtain ⟨v, ev⟩ := r.there es eg
        refine ⟨v, ev, r.at, ih r (Out.wp_mono (Out.wp_bind q) (fun ds ρ2 q vs H2 F2 ts r2 o => ?_) fun _ _ z => z)⟩
        split at q
        · rename_i d e2
          obtain ⟨s2, es2, eg2⟩ := Option.bind_eq_some_iff.mp e2
          exact q (v :: vs) H2 F2 ts r2 (.var es2 eg2 ev o)
        · exact q.elim
    | itm i j =>
      rw [evOps] at q
      split at q
      · exact q.elim
      · rename_i d0 e0
        obtain ⟨s0, xs, es, eg, ej⟩ := itmD_some e0
        obtain ⟨a, ws, v, ev, ha, ew, r1⟩ := r.item es eg ej
        refine ⟨a, ws, v, ev, r.at, ha, ew, ih r1 (Out.wp_mono (Out.wp_bind q) (fun ds ρ2 q vs H2 F2 ts r2 o => ?_) fun x ρ2 z cls d H F xr r => ?_)⟩
        · split at q
          · rename_i d e2
            obtain ⟨s2, xs2, es2, eg2, ej2⟩ := itmD_some e2
            exact q (v :: vs) H2 F2 ((.tv ws, .ref a) :: ts) (by rw [List.append_assoc] at r2; exact r2) (.itm es2 eg2 ej2 ev ew o)
          · exact q.elim
        · exact z cls d H F xr r.drop
theorem bl_of {T : Tm} {ρ : En} {σ : L2.St} {H : Hp} {F : List Addr} {b : Bool} {v : V} (r : R B (T ++ [(.bl b, v)]) ρ σ H F) : v = .bl b := by
  obtain ⟨fp, p⟩ := r.pt
  have := p.tm T.length (.bl b) v (by simp)
  generalize fp (.inl T.length) = G at this
  cases this
  rfl
def evOp (ps : List Opd) (op : List D → Option D) : En → Out D := fun ρ => (evOps ps ρ).bind fun ds ρ' => match op ds with
  | some d => .ok d ρ'
  | none => .no
def OpS (B : Bs) (r : List V → Hp → VK → Prop) (op : List D → Option D) : Prop := ∀ {T ts : Tm} {ρ : En} {σ : L2.St} {H : Hp} {F : List Addr} {ps : List Opd} {ds : List D} {vs : List V} {Q : VK} {d : D},
  R B (T ++ ts) ρ σ H F → OpV B ρ σ ps ts ds vs → op ds = some d → (∀ v H' F', R B (T ++ [(d, v)]) ρ σ H' F' → Q v H') → r vs H Q
theorem op_run {ps : List Opd} {op : List D → Option D} {r : List V → Hp → VK → Prop} (hr : OpS B r op) {σ : L2.St} {H : Hp} {Q : VK} (h : cE B (evOp ps op) σ H Q) : tOps B ps σ H fun vs H' => r vs H' Q := by
  obtain ⟨T, ρ, F, rr, q⟩ := h
  refine ops_run rr (Out.wp_mono (Out.wp_bind q) (fun ds ρ' q vs H' F' ts r' o => ?_) fun _ _ z => z)
  split at q
  · rename_i d e
    exact hr r' o e fun v H2 F2 r2 => q v H2 F2 r2
  · exact q.elim
def evTOp (ps : List Opd) (op : List D → Option D) : En → Out Bool := fun ρ => (evOps ps ρ).bind fun ds ρ' => match op ds with
  | some (.bl b) => .ok b ρ'
  | _ => .no
theorem opt_run {ps : List Opd} {op : List D → Option D} {r : List V → Hp → VK → Prop} (hr : OpS B r op) {σ : L2.St} {H : Hp} {Q : Bool → Hp → Prop} (h : cT B (evTOp ps op) σ H Q) : tOps B ps σ H fun vs H' => r vs H' fun x H2 => ∃ k, x = .bl k ∧ Q k H2 := by
  obtain ⟨T, ρ, F, rr, q⟩ := h
  refine ops_run rr (Out.wp_mono (Out.wp_bind q) (fun ds ρ' q vs H' F' ts r' o => ?_) fun _ _ z => z)
  split at q
  · rename_i b e
    refine hr r' o e fun v H2 F2 r2 => ?_
    cases bl_of r2
    exact ⟨b, rfl, q H2 F2 r2.drop⟩
  · exact q.elim
def rr2 (r : R2) : List V → Hp → VK → Prop := fun vs H Q => match vs with
  | [x, y] => r x y H Q
  | _ => False
def rr1 (r : V → Hp → VK → Prop) : List V → Hp → VK → Prop := fun vs H Q => match vs with
  | [x] => r x H Q
  | _ => False
variable {a b e : Expr} {es : List Expr} {pa pb : Opd} {ps : List Opd} {o : List D → Option D} {pos : Pos}
theorem ev_bin {op : Operator} {r : R2} (ho : OpR X (binaryOp op) r) (hr : OpS B (rr2 r) o) (ha : PE X a (tOpd B pa)) (hb : PE X b (tOpd B pb)) : PE X (.BinOp a op b pos) (cE B (evOp [pa, pb] o)) :=
  (pe_op ho ha hb).imp fun _ _ _ h => op_run hr h
theorem ev_un {op : UnaryOp} {r : V → Hp → VK → Prop} (ho : UnR X (unaryOp op) r) (hr : OpS B (rr1 r) o) (ha : PE X a (tOpd B pa)) : PE X (.UnaryOp op a pos) (cE B (evOp [pa] o)) :=
  (pe_un ho ha).imp fun _ _ _ h => op_run hr h
theorem ev_cmp {op : CmpOp} {r : R2} (ho : OpR X (compareOp op) r) (hr : OpS B (rr2 r) o) (hm : behindInMarks op b = false) (ha : PE X a (tOpd B pa)) (hb : PE X b (tOpd B pb)) : PE X (.Compare a [op] [b] pos) (cE B (evOp [pa, pb] o)) :=
  (pe_cmpR ho ha hb hm).imp fun _ _ _ h => op_run hr h
theorem et_cmp {op : CmpOp} {r : R2} (ho : OpR X (compareOp op) r) (hr : OpS B (rr2 r) o) (hm : behindInMarks op b = false) (ha : PE X a (tOpd B pa)) (hb : PE X b (tOpd B pb)) : PT X (.Compare a [op] [b] pos) (cT B (evTOp [pa, pb] o)) :=
  (pt_cmpR ho ha hb hm).imp fun _ _ _ h => opt_run hr h
theorem ev_ix {r : R2} (ho : IxR X r) (hr : OpS B (rr2 r) o) (ha : PE X a (tOpd B pa)) (hb : PE X b (tOpd B pb)) (hs : PlainIx b) : PE X (.Subscript a b pos) (cE B (evOp [pa, pb] o)) :=
  (pe_ix ho ha hb hs).imp fun _ _ _ h => op_run hr h
inductive EA (X : Cx) (B : Bs) : List Expr → List Opd → Prop
  | nil : EA X B [] []
  | cons {e : Expr} {es : List Expr} {p : Opd} {ps : List Opd} (h : PE X e (tOpd B p)) (r : EA X B es ps) (hs : starEach (e :: es) X.env = (false, eval e X.env) :: starEach es X.env := by rfl) : EA X B (e :: es) (p :: ps)
theorem EA.run (h : EA X B es ps) : PA X es (tOps B ps) := by
  induction h with
  | nil => exact pa_nil
  | cons h r hs ih => exact pa_cons h ih hs
theorem ev_bt {x : Str} {id : String} {p : Pos} {r : List V → Hp → VK → Prop} (hc : CallR X (.builtin id) r) (hr : OpS B r o) (hg : Gl X x) (hm : X.mg x = none) (hv : bootBuiltins x = some (.builtin id)) (ha : EA X B (e :: es) ps) (hn : x ≠ "__name__" := by decide) (hdb : (x == ("__debug__" : Str)) = false := by decide)
    (he : starEach (e :: es) X.env = (false, eval e X.env) :: starEach es X.env := by rfl) (hpl : (backTo pos (starEach es X.env)).any (·.1) = false := by rfl) : PE X (.Call (.Name x p) (e :: es) [] pos) (cE B (evOp ps o)) :=
  (pe_callB hc hg hm hv ha.run hn hdb he hpl).imp fun _ _ _ h => op_run hr h
theorem ev_ty {x : Str} {id : String} {p : Pos} {r : List V → Hp → VK → Prop} (hc : CallR X (.type id) r) (hr : OpS B r o) (hg : Gl X x) (hm : X.mg x = none) (hv : bootBuiltins x = some (.type id)) (ha : EA X B (e :: es) ps) (hn : x ≠ "__name__" := by decide) (hdb : (x == ("__debug__" : Str)) = false := by decide)
    (he : starEach (e :: es) X.env = (false, eval e X.env) :: starEach es X.env := by rfl) (hpl : (backTo pos (starEach es X.env)).any (·.1) = false := by rfl) : PE X (.Call (.Name x p) (e :: es) [] pos) (cE B (evOp ps o)) :=
  (pe_callTy hc hg hm hv ha.run hn hdb he hpl).imp fun _ _ _ h => op_run hr h
def evT (f : En → Out D) : En → Out Bool := fun ρ => (f ρ).bind fun d ρ' => match d with
  | .bl b => .ok b ρ'
  | _ => .no
theorem et_val {f : En → Out D} (h : PE X e (cE B f)) (he : ∀ whole, isTrue e X.env whole = (do let v ← whole; standAt e.pos; holding [v] (truthy v)) := by intro _; rfl) : PT X e (cT B (evT f)) :=
  (pt_val h he).imp fun σ H Q ⟨T, ρ, F, r, q⟩ => by
    refine ⟨T, ρ, F, r, Out.wp_mono (Out.wp_bind q) (fun d ρ' q v H' F' r' => ?_) fun _ _ z => z⟩
    split at q
    · cases bl_of r'
      exact ⟨_, rfl, q H' F' r'.drop⟩
    · exact q.elim
def evTNot (f : En → Out Bool) : En → Out Bool := fun ρ => (f ρ).bind fun b ρ' => .ok (!b) ρ'
theorem et_not {f : En → Out Bool} (h : PT X a (cT B f)) : PT X (.UnaryOp .Not a pos) (cT B (evTNot f)) := (pt_not h).imp fun σ H Q ⟨T, ρ, F, r, q⟩ =>
  ⟨T, ρ, F, r, Out.wp_mono (Out.wp_bind q) (fun d ρ' q H' F' r' => q H' F' r') fun _ _ z => z⟩
def evTAnd (f g : En → Out Bool) : En → Out Bool := fun ρ => (f ρ).bind fun b ρ' => if b = true then g ρ' else .ok false ρ'
def evTOr (f g : En → Out Bool) : En → Out Bool := fun ρ => (f ρ).bind fun b ρ' => if b = true then .ok true ρ' else g ρ'
theorem ew_one_and {f : En → Out Bool} (h : PT X a (cT B f)) : PW X (.BoolOp .And [a] pos) (cT B f) := pw_and1 h
theorem ew_one_or {f : En → Out Bool} (h : PT X a (cT B f)) : PW X (.BoolOp .Or [a] pos) (cT B f) := pw_or1 h
theorem _root_.L2.PW.imp {e : Expr} {t t' : TT} (h : PW X e t) (w : ∀ σ H Q, t' σ H Q → t σ H Q) : PW X e t' := ⟨fun wh pins s σ H Q I q => h.run wh pins s σ H Q I (w _ _ _ q)⟩
theorem ew_and {f g : En → Out Bool} {rest : List Expr} (ha : PT X a (cT B f)) (hb : PW X (.BoolOp .And (b :: rest) pos) (cT B g)) : PW X (.BoolOp .And (a :: b :: rest) pos) (cT B (evTAnd f g)) :=
  (pw_and ha hb).imp fun σ H Q ⟨T, ρ, F, r, q⟩ => by
    refine ⟨T, ρ, F, r, Out.wp_mono (Out.wp_bind q) (fun b ρ' q H' F' r' => ?_) fun _ _ z => z⟩
    cases b with
    | true => rw [if_pos rfl] at q ⊢; exact ⟨T, ρ', F', r', q⟩
    | false => rw [if_neg (by simp)] at q ⊢; exact q H' F' r'
theorem ew_or {f g : En → Out Bool} {rest : List Expr} (ha : PT X a (cT B f)) (hb : PW X (.BoolOp .Or (b :: rest) pos) (cT B g)) : PW X (.BoolOp .Or (a :: b :: rest) pos) (cT B (evTOr f g)) :=
  (pw_or ha hb).imp fun σ H Q ⟨T, ρ, F, r, q⟩ => by
    refine ⟨T, ρ, F, r, Out.wp_mono (Out.wp_bind q) (fun b ρ' q H' F' r' => ?_) fun _ _ z => z⟩
    cases b with
    | false => rw [if_neg (by simp)] at q ⊢; exact ⟨T, ρ', F', r', q⟩
    | true => rw [if_pos rfl] at q ⊢; exact q H' F' r'
theorem et_w {f : En → Out Bool} (h : PW X e (cT B f)) : PT X e (cT B f) := h.pt
def evAnd (f g : En → Out D) : En → Out D := fun ρ => (f ρ).bind fun d ρ' => match d with
  | .bl true => g ρ'
  | .bl false => .ok (.bl false) ρ'
  | _ => .no
def evOr (f g : En → Out D) : En → Out D := fun ρ => (f ρ).bind fun d ρ' => match d with
  | .bl true => .ok (.bl true) ρ'
  | .bl false => g ρ'
  | _ => .no
def evNot (f : En → Out D) : En → Out D := fun ρ => (f ρ).bind fun d ρ' => match d with
  | .bl b => .ok (.bl (!b)) ρ'
  | _ => .no
theorem ev_one {op} {f : En → Out D} (h : PE X a (cE B f)) : PE X (.BoolOp op [a] pos) (cE B f) := pe_one h
theorem ev_and {f g : En → Out D} {rest : List Expr} (ha : PE X a (cE B f)) (hb : PE X (.BoolOp .And (b :: rest) pos) (cE B g)) : PE X (.BoolOp .And (a :: b :: rest) pos) (cE B (evAnd f g)) :=
  (pe_and ha hb).imp fun σ H Q ⟨T, ρ, F, r, q⟩ => by
    refine ⟨T, ρ, F, r, Out.wp_mono (Out.wp_bind q) (fun d ρ' q v H' F' r' => ?_) fun _ _ z => z⟩
    split at q
    · cases bl_of r'; exact ⟨_, rfl, by rw [if_pos rfl]; exact ⟨T, ρ', F', r'.drop, q⟩⟩
    · cases bl_of r'; exact ⟨_, rfl, by rw [if_neg (by simp)]; exact q _ _ _ r'⟩
    · exact q.elim
theorem ev_or {f g : En → Out D} {rest : List Expr} (ha : PE X a (cE B f)) (hb : PE X (.BoolOp .Or (b :: rest) pos) (cE B g)) : PE X (.BoolOp .Or (a :: b :: rest) pos) (cE B (evOr f g)) :=
  (pe_or ha hb).imp fun σ H Q ⟨T, ρ, F, r, q⟩ => by
    refine ⟨T, ρ, F, r, Out.wp_mono (Out.wp_bind q) (fun d ρ' q v H' F' r' => ?_) fun _ _ z => z⟩
    split at q
    · cases bl_of r'; exact ⟨_, rfl, by rw [if_pos rfl]; exact q _ _ _ r'⟩
    · cases bl_of r'; exact ⟨_, rfl, by rw [if_neg (by simp)]; exact ⟨T, ρ', F', r'.drop, q⟩⟩
    · exact q.elim
theorem ev_not {f : En → Out D} (ha : PE X a (cE B f)) : PE X (.UnaryOp .Not a pos) (cE B (evNot f)) :=
  (pe_not ha).imp fun σ H Q ⟨T, ρ, F, r, q⟩ => by
    refine ⟨T, ρ, F, r, Out.wp_mono (Out.wp_bind q) (fun d ρ' q v H' F' r' => ?_) fun _ _ z => z⟩
    split at q
    · cases bl_of r'; exact ⟨_, rfl, q _ _ _ (r'.drop.push (.bl _))⟩
    · exact q.elim
def evIf (c : En → Out Bool) (f g : En → Out D) : En → Out D := fun ρ => (c ρ).bind fun b ρ' => if b = true then f ρ' else g ρ'
theorem ev_if {c : Expr} {fc : En → Out Bool} {f g : En → Out D} (hc : PT X c (cT B fc)) (ha : PE X a (cE B f)) (hb : PE X b (cE B g)) : PE X (.IfExp c a b pos) (cE B (evIf fc f g)) :=
  (pe_ifExp hc ha hb).imp fun σ H Q ⟨T, ρ, F, r, q⟩ => by
    refine ⟨T, ρ, F, r, Out.wp_mono (Out.wp_bind q) (fun b ρ' q H' F' r' => ?_) fun _ _ z => z⟩
    cases b with
    | true => rw [if_pos rfl] at q ⊢; exact ⟨T, ρ', F', r', q⟩
    | false => rw [if_neg (by simp)] at q ⊢; exact ⟨T, ρ', F', r', q⟩
theorem OpV.vals {ρ : En} {σ : L2.St} : ∀ {fs : List (En → Out D)} {ts : Tm} {ds : List D} {vs : List V}, OpV B ρ σ (fs.map Opd.val) ts ds vs → ts.map (·.1) = ds ∧ ts.map (·.2) = vs
  | [], _, _, _, .nil => ⟨rfl, rfl⟩
  | f :: fs, _, _, _, .val o => by
    obtain ⟨h1, h2⟩ := OpV.vals o
    exact ⟨by simp [h1], by simp [h2]⟩
def evTup (fs : List (En → Out D)) : En → Out D := fun ρ => (evOps (fs.map Opd.val) ρ).bind fun ds ρ' => .ok (.tup ds) ρ'
def evLst (fs : List (En → Out D)) : En → Out D := fun ρ => (evOps (fs.map Opd.val) ρ).bind fun ds ρ' => .ok (.lst true ds) ρ'
inductive EM (X : Cx) (B : Bs) : List Expr → List (En → Out D) → Prop
  | nil : EM X B [] []
  | cons {e : Expr} {es : List Expr} {f : En → Out D} {fs : List (En → Out D)} (h : PE X e (cE B f)) (r : EM X B es fs) (hs : starEach (e :: es) X.env = (false, eval e X.env) :: starEach es X.env := by rfl) : EM X B (e :: es) (f :: fs)
theorem EM.run {fs : List (En → Out D)} (h : EM X B es fs) : PA X es (tOps B (fs.map Opd.val)) := by
  induction h with
  | nil => exact pa_nil
  | cons h r hs ih => exact pa_cons h ih hs
theorem ops_len {ps : List Opd} {ρ : En} {σ : L2.St} {ts : Tm} {ds : List D} {vs : List V} (o : OpV B ρ σ ps ts ds vs) : ds.length = ps.length := by
  induction o with
  | nil => rfl
  | val _ ih => simp [ih]
  | var _ _ _ _ ih => simp [ih]
  | itm _ _ _ _ _ _ ih => simp [ih]
theorem ev_tup {fs : List (En → Out D)} {k : Nat} (h : EM X B es fs) (hz : fs.length ≤ sizeLine := by decide) : PE X (.Tuple es k pos) (cE B (evTup fs)) :=
  (pe_tup h.run).imp fun σ H Q ⟨T, ρ, F, r, q⟩ => by
    refine ops_run r (Out.wp_mono (Out.wp_bind q) (fun ds ρ' q vs H' F' ts r' o => ?_) fun _ _ z => z)
    obtain ⟨e1, e2⟩ := o.vals
    have hl : vs.length ≤ sizeLine := by rw [← o.len, ops_len o, List.length_map]; exact hz
    refine ⟨hl, fun p hp => ?_⟩
    have := r'.mkTup hp (by rw [← List.length_map (f := (·.2)), e2]; exact hl)
    rw [e1, e2] at this
    exact q _ _ _ this
theorem ev_lst {fs : List (En → Out D)} (h : EM X B es fs) (hz : fs.length ≤ sizeLine := by decide) : PE X (.List es pos) (cE B (evLst fs)) :=
  (pe_lst h.run).imp fun σ H Q ⟨T, ρ, F, r, q⟩ => by
    refine ops_run r (Out.wp_mono (Out.wp_bind q) (fun ds ρ' q vs H' F' ts r' o => ?_) fun _ _ z => z)
    obtain ⟨e1, e2⟩ := o.vals
    have hl : vs.length ≤ sizeLine := by rw [← o.len, ops_len o, List.length_map]; exact hz
    refine ⟨hl, fun p hp => ?_⟩
    have := r'.mkLst hp (by rw [← List.length_map (f := (·.2)), e2]; exact hl)
    rw [e1, e2] at this
    exact q _ _ _ this
end
end Fw

namespace Fw
open PySem PySem.Spec PyProof.Rows L2
def nxS : En → Out Fl := fun ρ => .ok .nx ρ
def sqS (f g : En → Out Fl) : En → Out Fl := fun ρ => (f ρ).bind fun fl ρ' => match fl with
  | .nx => g ρ'
  | .rt d => .ok (.rt d) ρ'
  | .bk => .ok .bk ρ'
  | .ct => .ok .ct ρ'
def sRet (f : En → Out D) : En → Out Fl := fun ρ => (f ρ).bind fun d ρ' => .ok (.rt d) ρ'
def sDrop (f : En → Out D) : En → Out Fl := fun ρ => (f ρ).bind fun _ ρ' => .ok .nx ρ'
def sIf (c : En → Out Bool) (f g : En → Out Fl) : En → Out Fl := fun ρ => (c ρ).bind fun b ρ' => if b = true then f ρ' else g ρ'
def sAs (i : Nat) (f : En → Out D) : En → Out Fl := fun ρ => (f ρ).bind fun d ρ' => .ok .nx { ρ' with vs := ρ'.vs.set i (mkSv d) }
def setsh (vs : List Sv) : List Nat → List D → Option (List Sv)
  | [], [] => some vs
  | i :: is, d :: ds => setsh (vs.set i (.sh d)) is ds
  | _, _ => none
def tgN (i : Nat) : D → En → Option En := fun d ρ => some { ρ with vs := ρ.vs.set i (mkSv d) }
def tgT (is : List Nat) : D → En → Option En := fun d ρ => match fz d with
  | .tup ds => (setsh ρ.vs is ds).map fun vs => { ρ with vs := vs }
  | _ => none
def sAsT (t : D → En → Option En) (f : En → Out D) : En → Out Fl := fun ρ => (f ρ).bind fun d ρ' => match t d ρ' with
  | some ρ2 => .ok .nx ρ2
  | none => .no
def forL (t : D → En → Option En) (body : En → Out Fl) (fg : List Nat) : List D → En → Out Fl
  | [], ρ => .ok .nx ρ
  | d :: ds, ρ => match t d ρ with
    | none => .no
    | some ρ1 => (body ρ1).bind fun fl ρ2 => match fl with
      | .nx => forL t body fg ds { ρ2 with vs := fgt ρ2.vs fg }
      | .ct => forL t body fg ds { ρ2 with vs := fgt ρ2.vs fg }
      | .bk => .ok .nx ρ2
      | .rt d => .ok (.rt d) ρ2
def sFor (it : En → Out (List D)) (t : D → En → Option En) (body : En → Out Fl) (fg : List Nat) : En → Out Fl := fun ρ => (it ρ).bind fun ds ρ' => forL t body fg ds ρ'
def whL (c : En → Out Bool) (body : En → Out Fl) (fg : List Nat) : Nat → En → Out Fl
  | 0, _ => .no
  | n + 1, ρ => (c ρ).bind fun b ρ1 => if b = true then (body ρ1).bind fun fl ρ2 => match fl with
      | .nx => whL c body fg n { ρ2 with vs := fgt ρ2.vs fg }
      | .ct => whL c body fg n { ρ2 with vs := fgt ρ2.vs fg }
      | .bk => .ok .nx ρ2
      | .rt d => .ok (.rt d) ρ2
    else .ok .nx ρ1
def noEx {α : Type} : Out α → Out α
  | .ok a ρ => .ok a ρ
  | _ => .no
def lcL (t : D → En → Option En) (c : En → Out Bool) (elt : En → Out D) (own : List Nat) : List D → En → Out (List D)
  | [], ρ => .ok [] ρ
  | d :: ds, ρ => match t d ρ with
    | none => .no
    | some ρ1 => (noEx (c ρ1)).bind fun b ρ2 => if b = true then
        (noEx (elt ρ2)).bind fun y ρ3 => (lcL t c elt own ds { ρ3 with vs := fgt ρ3.vs own }).bind fun ys ρ4 => .ok (y :: ys) ρ4
      else lcL t c elt own ds { ρ2 with vs := fgt ρ2.vs own }
def evLc (it : En → Out (List D)) (t : D → En → Option En) (c : En → Out Bool) (elt : En → Out D) (own : List Nat) : En → Out D := fun ρ =>
  (it ρ).bind fun ds ρ' => (lcL t c elt own ds { ρ' with vs := fgt ρ'.vs own }).bind fun ys ρ2 => .ok (.lst true ys) ρ2
def evYes : En → Out Bool := fun ρ => .ok true ρ
section
variable {X : Cx} {B : Bs} {st : Stmt} {rest : List Stmt} {e : Expr} {pos : Pos} {f g : En → Out Fl} {fe : En → Out D}
theorem ss_nil : PSs X [] (cS B nxS) := pss_nil.imp fun D' σ H ⟨T, ρ, F, r, q⟩ => q _ _ _ r
theorem ss_cons (h1 : PS X st (cS B f)) (h2 : PSs X rest (cS B g)) : PSs X (st :: rest) (cS B (sqS f g)) := (pss_cons h1 h2).imp fun D' σ H ⟨T, ρ, F, r, q⟩ => by
  refine ⟨T, ρ, F, r, Out.wp_mono (Out.wp_bind q) (fun fl ρ' q => ?_) fun _ _ z => z⟩
  cases fl with
  | nx => exact fun σ H F r => ⟨T, ρ', F, r, q⟩
  | rt d => exact q
  | bk => exact q
  | ct => exact q
theorem ss_one (h : PS X st (cS B f)) : PSs X [st] (cS B f) := pss_one h
theorem exS {T : Tm} {σ : L2.St} {x : Exc} {ρ : En} (z : sxQ B T x ρ) : exQ B T σ x ρ := fun cls d H F xr r => z cls d σ H F xr r
theorem es_ret (h : PE X e (cE B fe)) : PS X (.Return (some e) pos) (cS B (sRet fe)) := (ps_ret h).imp fun D' σ H ⟨T, ρ, F, r, q⟩ =>
  ⟨T, ρ, F, r, Out.wp_mono (Out.wp_bind q) (fun d ρ' q v H' F' r' => q v σ H' F' r') fun _ _ z => exS z⟩
theorem es_drop (h : PE X e (cE B fe)) (hs : swapsWith e none pos.line X.env = pure false := by rfl) : PS X (.Expr e pos) (cS B (sDrop fe)) := (ps_expr h hs).imp fun D' σ H ⟨T, ρ, F, r, q⟩ =>
  ⟨T, ρ, F, r, Out.wp_mono (Out.wp_bind q) (fun d ρ' q v H' F' r' => q σ H' F' r'.drop) fun _ _ z => exS z⟩
theorem es_if {c : Expr} {a b : List Stmt} {fc : En → Out Bool} (hc : PT X c (cT B fc)) (ha : PSs X a (cS B f)) (hb : PSs X b (cS B g)) : PS X (.If c a b pos) (cS B (sIf fc f g)) := (ps_if hc ha hb).imp fun D' σ H ⟨T, ρ, F, r, q⟩ => by
  refine ⟨T, ρ, F, r, Out.wp_mono (Out.wp_bind q) (fun b ρ' q H' F' r' => ?_) fun _ _ z => exS z⟩
  cases b with
  | true => rw [if_pos rfl] at q ⊢; exact ⟨T, ρ', F', r', q⟩
  | false => rw [if_neg (by simp)] at q ⊢; exact ⟨T, ρ', F', r', q⟩
theorem es_as {i : Nat} {te : TE} (h : PS X st (tAsg te (gName i))) (w : ∀ σ H Q, cE B fe σ H Q → te σ H Q) (hf : B.free [i] = true) : PS X st (cS B (sAs i fe)) := h.imp fun D' σ H ⟨T, ρ, F, r, q⟩ =>
  w _ _ _ ⟨T, ρ, F, r, Out.wp_mono (Out.wp_bind q) (fun d ρ' q v H' F' r' => q _ _ _ (r'.store hf)) fun _ _ z => exS z⟩
theorem es_set {i : Nat} {x : Str} {pos' : Pos} (hN : X.N.Nodup) (hi : X.N[i]? = some x) (hx : Loc X.env.scope x) (he : PE X e (cE B fe)) (hs : swapsWith e (some (.Name x pos')) pos.line X.env = pure false := by rfl) (hf : X.fn x = true ∨ X.env.scope.names.lookup x = some .local := by first | exact .inl rfl | exact .inr rfl | assumption) (hme : B.free [i] = true := by rfl) :
    PS X (.Assign [.Name x pos'] e pos) (cS B (sAs i fe)) := es_as (ps_set hN hi hx he hs hf) (fun _ _ _ h => h) hme
def cG (B : Bs) (t : D → En → Option En) : TG := fun v σ H Q => ∃ T ρ F d ρ', R B (T ++ [(d, v)]) ρ σ H F ∧ t d ρ = some ρ' ∧ ∀ σ' H' F', R B T ρ' σ' H' F' → Q σ' H'
theorem _root_.L2.PG.imp {tg : Expr} {t t' : TG} (h : PG X tg t) (w : ∀ v σ H Q, t' v σ H Q → t v σ H Q) : PG X tg t' := ⟨fun pins s σ H v u Q I r q => h.run pins s σ H v u Q I r (w _ _ _ _ q)⟩
theorem eg_name {i : Nat} {x : Str} (hN : X.N.Nodup) (hi : X.N[i]? = some x) (hx : Loc X.env.scope x) (hf : X.fn x = true ∨ X.env.scope.names.lookup x = some .local := by first | exact .inl rfl | exact .inr rfl | assumption) (hme : B.free [i] = true := by rfl) : PG X (.Name x pos) (cG B (tgN i)) :=
  (pg_name hN hi hx hf).imp fun v σ H Q ⟨T, ρ, F, d, ρ', r, e, q⟩ => by
    cases e
    exact q _ _ _ (r.store hme)
inductive EG (X : Cx) : List Expr → List Nat → Prop
  | nil : EG X [] []
  | cons {x : Str} {p : Pos} {es : List Expr} {i : Nat} {is : List Nat} (hi : X.N[i]? = some x) (hx : Loc X.env.scope x) (r : EG X es is)
      (hs : (assignEach (.Name x p :: es) X.env).map (·.2) = assign (.Name x p) X.env :: (assignEach es X.env).map (·.2) := by rfl) (hf : X.fn x = true ∨ X.env.scope.names.lookup x = some .local := by first | exact .inl rfl | exact .inr rfl | assumption) : EG X (.Name x p :: es) (i :: is)
def gNames : List Nat → TGs
  | [] => gNil
  | i :: is => gCons (gName i) (gNames is)
theorem EG.run {es : List Expr} {is : List Nat} (hN : X.N.Nodup) (h : EG X es is) : PGs X es (gNames is) := by
  induction h with
  | nil => exact pgs_nil
  | cons hi hx r hs hf ih => exact pgs_cons (pg_name hN hi hx hf) ih hs
theorem freezeTmp {T : Tm} {ρ : En} {σ : L2.St} {H : Hp} {F : List Addr} {d : D} {v : V} (r : R B (T ++ [(d, v)]) ρ σ H F) : ∃ F', R B T ρ σ H F' ∧ Rp B.S H (hid (B.M ++ F') H) (fz d) v [] := by
  obtain ⟨F', r', rl, _⟩ := r.shareOps (ps := [.val fun _ => .no]) (ds := [d]) (vs := [v]) (ts := [(d, v)]) (.val .nil) [] (fun _ z => nomatch z)
  refine ⟨F', ?_, (RpL.cons_nil rl).1⟩
  have e : ∀ (n : Nat) (l : List Sv), frzS [] n l = l := fun n l => by
    induction l generalizing n with
    | nil => rfl
    | cons s l ih => rw [frzS, ih]; simp
  have := r'
  rw [e] at this
  exact this
theorem names_run {is : List Nat} : ∀ {ds : List D} {vs : List V} {T : Tm} {ρ : En} {σ : L2.St} {H : Hp} {F : List Addr} {svs : List Sv} {Q : L2.St → Hp → Prop}, B.free is = true → R B T ρ σ H F → RpL B.S H (hid (B.M ++ F) H) ds vs [] →
    setsh ρ.vs is ds = some svs → (∀ σ' H' F', R B T { ρ with vs := svs } σ' H' F' → Q σ' H') → gNames is vs σ H Q := by
  induction is with
  | nil =>
    intro ds vs T ρ σ H F svs Q hf r rl e q
    cases ds with
    | nil => cases rl; cases e; exact ⟨rfl, q _ _ _ r⟩
    | cons d ds => cases e
  | cons i is ih =>
    intro ds vs T ρ σ H F svs Q hf r rl e q
    cases ds with
    | nil => cases e
    | cons d ds =>
      cases vs with
      | nil => have := rl.length; simp at this
      | cons v vs =>
        obtain ⟨h1, h2⟩ := rl.cons_nil
        refine ⟨v, vs, rfl, ?_⟩
        have r1 := (r.push h1).store (i := i) (Bs.free_cons hf).1
        refine ih (ρ := { ρ with vs := ρ.vs.set i (.sh d) }) (Bs.free_cons hf).2 ?_ h2 e q
        have : R B T { ρ with vs := ρ.vs.set i (.sh d) } (σ.set i (some v)) H F := by
          obtain ⟨fp, p⟩ := r.pt
          refine { r with len := by simp [r.len], fol := r1.fol, pin := r1.pin, pt := ⟨fp, { p with sl := fun j s q => ?_ }⟩ }
          rcases getElem?_set' q with ⟨rfl, rfl⟩ | ⟨ne, q⟩
          · refine ⟨v, ?_, h1⟩
            have hi : i < σ.length := r.isLt (Bs.free2 (Bs.free_cons hf).1) (by
              have := (List.getElem?_eq_some_iff.mp q).1
              simpa using this)
            rw [Bs.loc_set_self (Bs.free2 (Bs.free_cons hf).1) hi]
          · rw [Bs.loc_set (Bs.free2 (Bs.free_cons hf).1) ne]; exact p.sl j s q
        exact this
theorem eg_tup {es : List Expr} {is : List Nat} {k : Nat} (hN : X.N.Nodup) (hc : X.calm = true) (h : EG X es is) (hl : es.length = is.length := by rfl) (hn : (assignEach es X.env).length = es.length := by rfl) (hst : (assignEach es X.env).findIdx? (·.1) = none := by rfl) (hme : B.free is = true := by rfl) : PG X (.Tuple es k pos) (cG B (tgT is)) :=
  (pg_tup hc (h.run hN) hn hst).imp fun v σ H Q ⟨T, ρ, F, d, ρ', r, e, q⟩ => by
    obtain ⟨F', r1, rd⟩ := freezeTmp r
    unfold tgT at e
    split at e
    · rename_i ds ed
      rw [ed] at rd
      cases rd with
      | @tup a vs _ _ h rl =>
        cases e1 : setsh ρ.vs is ds with
        | none => rw [e1] at e; cases e
        | some svs =>
          rw [e1] at e; cases e
          refine ⟨a, vs, rfl, SqT.of (hid_some h).2, ?_, names_run hme r1 rl e1 q⟩
          rw [← rl.length]
          have : ∀ (is : List Nat) (vs : List Sv) (ds : List D) (svs : List Sv), setsh vs is ds = some svs → ds.length = is.length := by
            intro is
            induction is with
            | nil => intro vs ds svs e; cases ds with
              | nil => rfl
              | cons d ds => cases e
            | cons i is ih => intro vs ds svs e; cases ds with
              | nil => cases e
              | cons d ds => simp [ih _ _ _ e]
          rw [this _ _ _ _ e1, hl]
    · cases e
theorem es_asT {tg : Expr} {t : D → En → Option En} (he : PE X e (cE B fe)) (hg : PG X tg (cG B t)) (hs : swapsWithSole [tg] e pos.line X.env = pure false := by rfl) (hw : swappedStores [tg] e X.env = pure none := by rfl)
    (h1 : (assignEach [tg] X.env).map (·.2) = [assign tg X.env] := by rfl) : PS X (.Assign [tg] e pos) (cS B (sAsT t fe)) := (ps_asg he hg hs hw h1).imp fun D' σ H ⟨T, ρ, F, r, q⟩ =>
  ⟨T, ρ, F, r, Out.wp_mono (Out.wp_bind q) (fun d ρ' q v H' F' r' => by
    split at q
    · rename_i ρ2 e2
      exact ⟨T, ρ', F', d, ρ2, r', e2, q⟩
    · exact q.elim) fun _ _ z => exS z⟩
def ItOk (B : Bs) (J : It) (items : List D) (fr : Tm) : Prop := items.length ≤ sizeLine ∧ ∀ (T T2 : Tm) (ρ : En) (σ : L2.St) (H : Hp) (F : List Addr), R B (T ++ fr ++ T2) ρ σ H F → ∀ i, (items.length ≤ i → J.stop i H) ∧
  ∀ d, items[i]? = some d → J.go i H ∧ ∀ x H', J.yld i H x H' → ∃ F', R B (T ++ fr ++ T2 ++ [(d, x)]) ρ σ H' F'
def cI (B : Bs) (it : En → Out (List D)) : TI := fun σ H Rr => ∃ T ρ F, R B T ρ σ H F ∧ (it ρ).wp (fun items ρ' => ∀ J H' F' fr, R B (T ++ fr) ρ' σ H' F' → ItOk B J items fr → Rr J H') (exQ B T σ)
theorem _root_.L2.PI.imp {tg e : Expr} {t t' : TI} (h : PI X tg e t) (w : ∀ σ H Q, t' σ H Q → t σ H Q) : PI X tg e t' := ⟨fun pins s σ H Q I q => h.run pins s σ H Q I (w _ _ _ q)⟩
theorem for_run {t : D → En → Option En} {body : En → Out Fl} {fg : List Nat} {it : En → Out (List D)} {tb : TS} (htb : ∀ D' σ H, cS B body D' σ H → tb D' σ H) {D' : Ends} {σ : L2.St} {H : Hp} (h : cS B (sFor it t body fg) D' σ H) : tFor (cI B it) (cG B t) tb D' σ H := by
  obtain ⟨T, ρ, F, r, q⟩ := h
  refine ⟨T, ρ, F, r, Out.wp_mono (Out.wp_bind q) (fun items ρ' q J H1 F1 fr r1 ok => ?_) fun _ _ z => exS z⟩
  refine ⟨fun i m σ H => m = items.length - i ∧ i ≤ items.length ∧ ∃ ρ F, R B (T ++ fr) ρ σ H F ∧ (forL t body fg (items.drop i) ρ).wp (slQ B T D') (sxQ B T), ⟨items.length, by simp, Nat.zero_le _, ρ', F1, r1, by simpa using q⟩, ?_⟩
  rintro i m σ H ⟨rfl, hi, ρ, F, r, q⟩
  have k := ok.2 T [] ρ σ H F (by simpa using r) i
  by_cases hlt : i < items.length
  · obtain ⟨d, ed⟩ : ∃ d, items[i]? = some d := ⟨_, List.getElem?_eq_getElem hlt⟩
    obtain ⟨hgo, hy⟩ := k.2 d ed
    have edr : items.drop i = d :: items.drop (i + 1) := by rw [List.drop_eq_getElem_cons hlt]; rw [List.getElem?_eq_getElem hlt] at ed; cases ed; rfl
    rw [edr, forL] at q
    refine .inr ⟨hgo, fun σ' H' => i + 1 ≤ items.length ∧ ∃ ρ F, R B (T ++ fr) ρ σ' H' F ∧ (forL t body fg (items.drop (i + 1)) ρ).wp (slQ B T D') (sxQ B T), fun σ' H' ⟨h1, h2⟩ => ⟨items.length - (i + 1), by omega, rfl, h1, h2⟩, fun x H' y => ?_⟩
    obtain ⟨F', r'⟩ := hy x H' y
    rw [List.append_nil] at r'
    split at q
    · exact q.elim
    · rename_i ρ1 e1
      refine ⟨T ++ fr, ρ, F', d, ρ1, r', e1, fun σ2 H2 F2 r2 => ?_⟩
      refine htb _ _ _ ⟨T ++ fr, ρ1, F2, r2, Out.wp_mono (Out.wp_bind q) (fun fl ρ2 q => ?_) fun x ρ2 z cls dd σ3 H3 F3 xr r3 => z cls dd σ3 H3 F3 xr r3.drop⟩
      cases fl with
      | nx => exact fun σ3 H3 F3 r3 => ⟨hlt, _, F3, r3.forget fg, q⟩
      | ct => exact fun σ3 H3 F3 r3 => ⟨hlt, _, F3, r3.forget fg, q⟩
      | bk => exact fun σ3 H3 F3 r3 => q σ3 H3 F3 r3.drop
      | rt d => exact fun v σ3 H3 F3 r3 => q v σ3 H3 F3 (R.dropMid r3)
  · have e : i = items.length := by omega
    subst e
    rw [List.drop_length, forL] at q
    exact .inl ⟨k.1 (Nat.le_refl _), q σ H F r.drop⟩
end
end Fw

namespace Fw
open PySem PySem.Spec PyProof.Rows L2
section
variable {X : Cx} {B : Bs} {st : Stmt} {e tg iter : Expr} {pos : Pos} {f g : En → Out Fl} {fe : En → Out D} {t : D → En → Option En} {it : En → Out (List D)} {fg : List Nat} {body : List Stmt}
theorem es_for (hp : PassesOwn (model X.prog X.w) X.A X.env X.xe) (hc : X.calm = true) (hi : PI X tg iter (cI B it)) (hg : PG X tg (cG B t)) (hb : PSs X body (cS B f)) (hs : ∀ x, foldedSetIterable iter X.env x = pure x := by intro _; rfl) : PS X (.For tg iter body [] pos) (cS B (sFor it t f fg)) :=
  (ps_for hp hc hi hg hb hs).imp fun D' σ H h => for_run (fun _ _ _ z => z) h
def WF : WX := fun _ _ _ _ => False
def Bs.mute (B : Bs) : Bs := { B with W := WF }
theorem R.mute {T : Tm} {ρ : En} {σ : L2.St} {H : Hp} {F : List Addr} (h : R B T ρ σ H F) : R B.mute T ρ σ H F := by
  obtain ⟨a1, b1, b2, ⟨fp, p1, p2, p3, p4, p5⟩, a3, a4, a5, a6, a7, a8, a9, a10, a11⟩ := h
  exact ⟨a1, b1, b2, ⟨fp, p1, p2, p3, p4, p5⟩, a3, a4, a5, a6, a7, a8, a9, a10, a11⟩
theorem R.unmute {T : Tm} {ρ : En} {σ : L2.St} {H : Hp} {F : List Addr} (h : R B.mute T ρ σ H F) : R B T ρ σ H F := by
  obtain ⟨a1, b1, b2, ⟨fp, p1, p2, p3, p4, p5⟩, a3, a4, a5, a6, a7, a8, a9, a10, a11⟩ := h
  exact ⟨a1, b1, b2, ⟨fp, p1, p2, p3, p4, p5⟩, a3, a4, a5, a6, a7, a8, a9, a10, a11⟩
theorem R.app {T : Tm} {ρ : En} {σ : L2.St} {H : Hp} {F : List Addr} {ds : List D} {d : D} {a : Addr} {v : V} (h : R B (T ++ [(.lst true ds, .ref a)] ++ [(d, v)]) ρ σ H F) :
    ∃ vs, H a = some (.lst vs) ∧ vs.length = ds.length ∧ (vs.length < sizeLine → R B (T ++ [(.lst true (ds ++ [d]), .ref a)]) ρ σ (upd H a (.lst (vs ++ [v]))) F) := by
  obtain ⟨fp, p⟩ := h.pt
  have r1 := p.tm T.length (.lst true ds) (.ref a) (by simp)
  have r2 := p.tm (T.length + 1) d v (by simp)
  generalize eG : fp (.inl T.length) = G at r1
  cases r1 with
  | @lstO _ vs _ F1 hH rl =>
    refine ⟨vs, hH, rl.length.symm, fun hz => ?_⟩
    have ha : a ∈ fp (.inl T.length) := by rw [eG]; exact List.mem_cons_self
    have haF : a ∈ F := p.sub _ a ha
    have haM : a ∉ B.M := fun z => h.dj a z haF
    have hh : hid (B.M ++ F) (upd H a (.lst (vs ++ [v]))) = hid (B.M ++ F) H := hid_upd (List.mem_append_right _ haF)
    have ne : ∀ b u, b ≠ a → H b = some u → upd H a (.lst (vs ++ [v])) b = some u := fun b u n q => by rw [upd_ne n]; exact q
    have nda := p.nd (.inl T.length)
    rw [eG] at nda
    have na1 : ∀ x ∈ F1, x ≠ a := fun x hx z => (List.nodup_cons.mp nda).1 (z ▸ hx)
    have na2 : ∀ x ∈ fp (.inl (T.length + 1)), x ≠ a := fun x hx z => by
      subst z
      have := Sum.inl.inj (p.ap _ _ x hx ha)
      omega
    have new : Rp B.S (upd H a (.lst (vs ++ [v]))) (hid (B.M ++ F) H) (.lst true (ds ++ [d])) (.ref a) (a :: (F1 ++ (fp (.inl (T.length + 1)) ++ []))) :=
      .lstO upd_same ((rl.mono (fun x hx u q => ne x u (na1 x hx) q) fun _ _ z => z).append (.cons (r2.mono (fun x hx u q => ne x u (na2 x hx) q) fun _ _ z => z) .nil))
    have memK : ∀ x, x ∈ (a :: (F1 ++ (fp (.inl (T.length + 1)) ++ []))) → x ∈ fp (.inl T.length) ∨ x ∈ fp (.inl (T.length + 1)) := fun x hx => by
      rw [eG]
      simp only [List.append_nil, List.mem_cons, List.mem_append] at hx ⊢
      rcases hx with z | z | z
      · exact .inl (.inl z)
      · exact .inl (.inr z)
      · exact .inr z
    have key : ∀ j x, x ∈ fpSet (fpCut fp T.length) (.inl T.length) (a :: (F1 ++ (fp (.inl (T.length + 1)) ++ []))) j → (j = .inl T.length ∧ (x ∈ fp (.inl T.length) ∨ x ∈ fp (.inl (T.length + 1)))) ∨ (j ≠ .inl T.length ∧ x ∈ fp j ∧ ∀ l, j = .inl l → l < T.length) := by
      intro j x hx
      by_cases q : j = .inl T.length
      · rw [q, fpSet_same] at hx; exact .inl ⟨q, memK x hx⟩
      · rw [fpSet_ne q] at hx
        refine .inr ⟨q, ?_⟩
        cases j with
        | inl j =>
          unfold fpCut at hx
          dsimp only at hx
          split at hx
          · exact ⟨hx, fun l e => by cases e; assumption⟩
          · cases hx
        | inr j => exact ⟨hx, fun l e => by cases e⟩
    refine { h with pt := ⟨fpSet (fpCut fp T.length) (.inl T.length) (a :: (F1 ++ (fp (.inl (T.length + 1)) ++ []))), ⟨fun j d' v' q => ?_, fun i s q => ?_, fun j => ?_, fun j l x hj hl => ?_, fun j x hj => ?_⟩⟩, obj := Bs.obj_mono h.obj fun h1 h2 u q => ne _ _ (by rintro rfl; exact haM h1) q, md := fun b hb => ?_, st := h.st.mono fun b hb u q => ?_, ext := fun b u q n => ?_, hl := h.hl.upd (by intro ws e; rcases e with e | e <;> cases e; simp; omega), own := fun b hb => ?_ }
    · rcases last_get q with ⟨hj, q⟩ | ⟨ej, q⟩
      · rw [fpSet_ne (by intro z; cases z; exact Nat.lt_irrefl _ hj), fpCut_lt hj, hh]
        refine (p.tm j _ _ (by rw [List.append_assoc, List.getElem?_append_left hj]; exact q)).mono (fun x hx u z => ne x u (fun w => ?_) z) fun _ _ z => z
        rw [w] at hx
        have := p.ap _ _ a hx ha
        cases this
        exact Nat.lt_irrefl _ hj
      · cases q
        rw [ej, fpSet_same, hh]; exact new
    · rw [fpSet_ne (by intro z; cases z), hh]
      refine (p.sl i s q).mono (fun x hx u z => ne x u (fun w => ?_) z) fun _ _ z => z
      rw [w] at hx
      have := p.ap _ _ a hx ha
      cases this
    · by_cases q : j = .inl T.length
      · rw [q, fpSet_same, List.append_nil]
        refine List.nodup_cons.mpr ⟨fun z => ?_, List.nodup_append.mpr ⟨(List.nodup_cons.mp nda).2, p.nd _, fun x hx y hy w => ?_⟩⟩
        · rcases List.mem_append.mp z with z | z
          · exact na1 a z rfl
          · exact na2 a z rfl
        · subst w
          have : x ∈ fp (.inl T.length) := by rw [eG]; exact List.mem_cons_of_mem _ hx
          have := Sum.inl.inj (p.ap _ _ x this hy)
          omega
      · rw [fpSet_ne q]
        cases j with
        | inl j =>
          unfold fpCut
          dsimp only
          split
          · exact p.nd _
          · exact List.nodup_nil
        | inr j => exact p.nd _
    · rcases key j x hj with ⟨ej, kj⟩ | ⟨ej, kj, lj⟩ <;> rcases key l x hl with ⟨el, kl⟩ | ⟨el, kl, ll⟩
      · rw [ej, el]
      · rcases kj with z | z
        · exact absurd (p.ap _ _ x kl z) el
        · have := p.ap _ _ x kl z
          have := ll _ this
          omega
      · rcases kl with z | z
        · exact absurd (p.ap _ _ x kj z) ej
        · have := p.ap _ _ x kj z
          have := lj _ this
          omega
      · exact p.ap _ _ x kj kl
    · rcases key j x hj with ⟨ej, kj⟩ | ⟨ej, kj, lj⟩
      · rcases kj with z | z
        · exact p.sub _ _ z
        · exact p.sub _ _ z
      · exact p.sub _ _ kj
    · by_cases q : b = a
      · subst q; exact absurd hb haM
      · exact (h.md b hb).to (upd_ne q)
    · rw [upd_ne (by rintro rfl; exact haM (h.sM b hb))]; exact q
    · rw [upd_ne (by rintro rfl; rw [h.new b haF] at q; cases q)]; exact h.ext b u q n
    · by_cases q : b = a
      · rw [q, upd_same]; simp
      · rw [upd_ne q]; exact h.own b hb
theorem fgt_get {l : List Nat} : ∀ {vs : List Sv} {i : Nat} {s : Sv}, (fgt vs l)[i]? = some s → s = .no ∨ (i ∉ l ∧ vs[i]? = some s) := by
  induction l with
  | nil => intro vs i s e; exact .inr ⟨by simp, e⟩
  | cons j is ih =>
    intro vs i s e
    rcases ih e with z | ⟨h1, h2⟩
    · exact .inl z
    · rcases getElem?_set' h2 with ⟨_, z⟩ | ⟨ne, z⟩
      · exact .inl z
      · exact .inr ⟨by simp [h1, Ne.symm ne], z⟩
theorem R.slots {T : Tm} {ρ : En} {σ σ' : L2.St} {H : Hp} {F : List Addr} (h : R B T ρ σ H F) (hl : σ'.length = σ.length) (k : ∀ (i : Nat) (s : Sv), ρ.vs[i]? = some s → s = .no ∨ B.loc σ' i = B.loc σ i) (kp : ∀ i a, B.me i = some a → σ'[i]? = σ[i]?) : R B T ρ σ' H F := by
  obtain ⟨fp, p⟩ := h.pt
  refine { h with len := by rw [hl]; exact h.len, fol := by rw [hl]; exact h.fol, pin := fun i a q => (kp i a q).trans (h.pin i a q), pt := ⟨fp, { p with sl := fun i s e => ?_ }⟩ }
  rcases k i s e with z | z
  · subst z; trivial
  · rw [z]; exact p.sl i s e
theorem wipe_pin {own : List Nat} {σ : L2.St} (hf : B.free own = true) {i : Nat} {a : Addr} (q : B.me i = some a) : (wipe σ own)[i]? = σ[i]? := wipe_out fun z => by rw [Bs.freeL hf z] at q; cases q
theorem wipe_get {σ : L2.St} {i : Nat} {vs : List Nat} (hf : B.free vs = true) (h : i ∉ vs) : B.loc (wipe σ vs) i = B.loc σ i := Bs.loc_congr fun j hj => wipe_out fun z => by
  have hL := Bs.freeI hf z
  unfold Bs.isL at hL
  simp at hL
  rcases hj with ⟨rfl, _⟩ | ⟨h2, e⟩
  · exact h z
  · rcases hL with c | c
    · rw [c] at e
      simp at e
      subst e
      exact h z
    · omega
theorem noEx_wp {α : Type} {o : Out α} {Q Q' : α → En → Prop} {Z Z' : Exc → En → Prop} (h : (noEx o).wp Q Z) (k : ∀ a ρ, Q a ρ → Q' a ρ) : o.wp Q' Z' := by
  cases o with
  | ok a ρ => exact k _ _ h
  | ex x ρ => exact h.elim
  | no => exact h.elim
theorem lc_mid {c : En → Out Bool} {elt : En → Out D} {own : List Nat} (hf : B.free own = true) {σ : L2.St} {Q : VK} {tt : TT} {te : TE} {T fr : Tm} {ρ' : En} {H1 : Hp} {F1 : List Addr} {items : List D} {J : It}
    (htt : ∀ σ H Q, cT B.mute c σ H Q → tt σ H Q) (hte : ∀ σ H Q, cE B.mute elt σ H Q → te σ H Q) (gt : TG)
    (hgg : ∀ (T : Tm) (ρ : En) (F : List Addr) (d : D) (ρ' : En) (v : V) (σ : L2.St) (H : Hp) (Q : L2.St → Hp → Prop), R B (T ++ [(d, v)]) ρ (wipe σ own) H F → t d ρ = some ρ' → (∀ σ' H' F', R B T ρ' σ' H' F' → wipe σ' own = wipe σ own → Q σ' H') → gt v (wipe σ own) H Q)
    (r1 : R B (T ++ fr) ρ' σ H1 F1) (ok : ItOk B J items fr) (Fin : List D → En → Prop) (hfin : ∀ ds ρ2 v H' F', Fin ds ρ2 → R B (T ++ fr ++ [(.lst true ds, v)]) ρ2 σ H' F' → Q v H')
    (q : (lcL t c elt own items { ρ' with vs := fgt ρ'.vs own }).wp (fun ys ρ2 => Fin ys ρ2) (exQ B T σ)) (A : Addr) (hA : H1 A = none) :
    ∃ W : Nat → Nat → Hp → Prop, (∃ m, W 0 m (upd H1 A (.lst []))) ∧ ∀ i m H, W i m H →
      (J.stop i H ∧ Q (.ref A) H) ∨ (J.go i H ∧ ∃ Nx : Hp → Prop, (∀ H', Nx H' → ∃ m', m' < m ∧ W (i + 1) m' H') ∧ ∀ x H', J.yld i H x H' → gt x (wipe σ own) H' fun σ2 H2 => wipe σ2 own = wipe σ own ∧ tt σ2 H2 fun b H3 =>
        if b = true then te σ2 H3 fun y H4 => ∃ acc, H4 A = some (.lst acc) ∧ acc.length < sizeLine ∧ Nx (upd H4 A (.lst (acc ++ [y]))) else Nx H3) := by
  have rA := R.mkLst (ts := []) (T := T ++ fr) (by rw [List.append_nil]; exact r1) hA (by show 0 ≤ sizeLine; exact Nat.zero_le _)
  have hwl : (wipe σ own).length = σ.length := wipe_length σ own
  have r0 : R B (T ++ fr ++ [(.lst true [], .ref A)]) { ρ' with vs := fgt ρ'.vs own } (wipe σ own) (upd H1 A (.lst [])) (A :: F1) := by
    refine (rA.forget own).slots hwl (fun i s e => ?_) fun i a q => wipe_pin hf q
    rcases fgt_get e with z | ⟨z, _⟩
    · exact .inl z
    · exact .inr (wipe_get hf z)
  refine ⟨fun i m H => m = items.length - i ∧ i ≤ items.length ∧ ∃ ρ F ds, R B (T ++ fr ++ [(.lst true ds, .ref A)]) ρ (wipe σ own) H F ∧ ds.length ≤ i ∧ (∀ j ∈ own, ∀ s, ρ.vs[j]? = some s → s = .no) ∧
    (lcL t c elt own (items.drop i) ρ).wp (fun ys ρ2 => Fin (ds ++ ys) ρ2) (exQ B T σ), ⟨items.length, by simp, Nat.zero_le _, _, _, [], r0, Nat.le_refl _, ?_, ?_⟩, ?_⟩
  · intro j hj s e
    rcases fgt_get e with z | ⟨z, _⟩
    · exact z
    · exact absurd hj z
  · exact Out.wp_mono q (fun ys ρ2 q => q) fun _ _ z => z
  · rintro i m H ⟨rfl, hi, ρ, F, ds, r, hds, hno, q⟩
    have k := ok.2 T [(.lst true ds, .ref A)] ρ (wipe σ own) H F r i
    by_cases hlt : i < items.length
    · obtain ⟨d, ed⟩ : ∃ d, items[i]? = some d := ⟨_, List.getElem?_eq_getElem hlt⟩
      obtain ⟨hgo, hy⟩ := k.2 d ed
      have edr : items.drop i = d :: items.drop (i + 1) := by rw [List.drop_eq_getElem_cons hlt]; rw [List.getElem?_eq_getElem hlt] at ed; cases ed; rfl
      rw [edr, lcL] at q
      refine .inr ⟨hgo, fun H' => i + 1 ≤ items.length ∧ ∃ ρ F ds, R B (T ++ fr ++ [(.lst true ds, .ref A)]) ρ (wipe σ own) H' F ∧ ds.length ≤ i + 1 ∧ (∀ j ∈ own, ∀ s, ρ.vs[j]? = some s → s = .no) ∧
        (lcL t c elt own (items.drop (i + 1)) ρ).wp (fun ys ρ2 => Fin (ds ++ ys) ρ2) (exQ B T σ), fun H' ⟨h1, h2⟩ => ⟨items.length - (i + 1), by omega, rfl, h1, h2⟩, fun x H' y => ?_⟩
      obtain ⟨F', r'⟩ := hy x H' y
      split at q
      · exact q.elim
      · rename_i ρ1 e1
        refine hgg _ ρ F' d ρ1 x σ H' _ r' e1 fun σ2 H2 F2 r2 ew => ⟨ew, htt _ _ _ ⟨_, ρ1, F2, r2.mute, ?_⟩⟩
        have back : ∀ {ρ : En} {H : Hp} {F : List Addr} {T' : Tm}, R B.mute T' ρ σ2 H F → R B T' { ρ with vs := fgt ρ.vs own } (wipe σ own) H F := fun {ρ H F T'} z => by
          refine (z.unmute.forget own).slots ?_ (fun j s e => ?_) fun j a q => by rw [← ew]; exact wipe_pin hf q
          · rw [← ew]; exact wipe_length _ _
          · rcases fgt_get e with z | ⟨z, _⟩
            · exact .inl z
            · rw [← ew]; exact .inr (wipe_get hf z)
        have backNo : ∀ {vs : List Sv}, ∀ j ∈ own, ∀ s, (fgt vs own)[j]? = some s → s = .no := fun {vs} j hj s e => by
          rcases fgt_get e with z | ⟨z, _⟩
          · exact z
          · exact absurd hj z
        refine noEx_wp (Out.wp_bind q) fun b ρ2 q H3 F3 r3 => ?_
        · cases b with
          | true =>
            rw [if_pos rfl] at q ⊢
            refine hte _ _ _ ⟨_, ρ2, F3, r3, noEx_wp (Out.wp_bind q) fun y ρ3 q v H4 F4 r4 => ?_⟩
            · obtain ⟨vs, hvs, hlen, app⟩ := r4.app
              have hz : vs.length < sizeLine := by
                have := ok.1
                omega
              refine ⟨vs, hvs, hz, hlt, _, F4, ds ++ [y], back (app hz), by simp; omega, backNo, ?_⟩
              exact Out.wp_mono (Out.wp_bind q) (fun ys ρ4 (q : Fin (ds ++ (y :: ys)) ρ4) => by rw [List.append_assoc]; exact q) fun _ _ z => z
          | false =>
            rw [if_neg (by simp)] at q ⊢
            exact ⟨hlt, _, F3, ds, back r3, by omega, backNo, q⟩
    · have e : i = items.length := by omega
      subst e
      rw [List.drop_length, lcL] at q
      refine .inl ⟨k.1 (Nat.le_refl _), hfin _ _ (.ref A) H F (by have q : Fin (ds ++ []) ρ := q; rw [List.append_nil] at q; exact q) ?_⟩
      refine r.slots ?_ (fun j s e => ?_) fun j a q => (wipe_pin hf q).symm
      · rw [hwl]
      · by_cases hj : j ∈ own
        · exact .inl (hno j hj s e)
        · exact .inr (wipe_get hf hj).symm
theorem lc_run {c : En → Out Bool} {elt : En → Out D} {own : List Nat} (hf : B.free own = true) {σ : L2.St} {H : Hp} {Q : VK} {tt : TT} {te : TE}
    (htt : ∀ σ H Q, cT B.mute c σ H Q → tt σ H Q) (hte : ∀ σ H Q, cE B.mute elt σ H Q → te σ H Q) (gt : TG)
    (hgg : ∀ (T : Tm) (ρ : En) (F : List Addr) (d : D) (ρ' : En) (v : V) (σ : L2.St) (H : Hp) (Q : L2.St → Hp → Prop), R B (T ++ [(d, v)]) ρ (wipe σ own) H F → t d ρ = some ρ' → (∀ σ' H' F', R B T ρ' σ' H' F' → wipe σ' own = wipe σ own → Q σ' H') → gt v (wipe σ own) H Q)
    (h : cE B (evLc it t c elt own) σ H Q) : tLc (cI B it) gt tt te own σ H Q := by
  obtain ⟨T, ρ, F, r, q⟩ := h
  refine ⟨T, ρ, F, r, Out.wp_mono (Out.wp_bind q) (fun items ρ' q J H1 F1 fr r1 ok A hA => ?_) fun _ _ z => z⟩
  exact lc_mid hf htt hte gt hgg r1 ok (fun (ds : List D) ρ2 => ∀ v H' F', R B (T ++ [(D.lst true ds, v)]) ρ2 σ H' F' → Q v H') (fun ds ρ2 v H' F' q r => q v H' F' (R.dropMid r)) (Out.wp_mono (Out.wp_bind q) (fun ys ρ2 q => q) fun _ _ z => z) A hA
theorem wipe_eq {own : List Nat} {a b : L2.St} (hl : a.length = b.length) (h : ∀ j, j ∉ own → a[j]? = b[j]?) : wipe a own = wipe b own := by
  apply List.ext_getElem?
  intro j
  by_cases hj : j ∈ own
  · have key : ∀ (l : List Nat) (a : L2.St), j ∈ l → j < a.length → (wipe a l)[j]? = some none := by
      intro l
      induction l with
      | nil => intro a z; cases z
      | cons v vs ih =>
        intro a z hlt
        unfold wipe
        by_cases e : v = j
        · subst e; rw [List.getElem?_set_self (by rw [wipe_length]; exact hlt)]
        · rw [List.getElem?_set_ne e]
          exact ih a ((List.mem_cons.mp z).resolve_left fun q => e q.symm) hlt
    by_cases hlt : j < a.length
    · rw [key own a hj hlt, key own b hj (hl ▸ hlt)]
    · rw [List.getElem?_eq_none (by rw [wipe_length]; omega), List.getElem?_eq_none (by rw [wipe_length]; omega)]
  · rw [wipe_out hj, wipe_out hj, h j hj]
theorem wipe_wipe {own : List Nat} {σ : L2.St} : wipe (wipe σ own) own = wipe σ own := wipe_eq (wipe_length _ _) fun j hj => wipe_out hj
theorem set_out {own : List Nat} {σ : L2.St} {i : Nat} {x : Option V} (hi : i ∈ own) : wipe (σ.set i x) own = wipe σ own := wipe_eq (by simp) fun j hj => List.getElem?_set_ne (by rintro rfl; exact hj hi)
theorem gg_name {own : List Nat} {i : Nat} (hf : B.free own = true) (hi : i ∈ own) (T : Tm) (ρ : En) (F : List Addr) (d : D) (ρ' : En) (v : V) (σ : L2.St) (H : Hp) (Q : L2.St → Hp → Prop) (r : R B (T ++ [(d, v)]) ρ (wipe σ own) H F) (e : tgN i d ρ = some ρ')
    (q : ∀ σ' H' F', R B T ρ' σ' H' F' → wipe σ' own = wipe σ own → Q σ' H') : gName i v (wipe σ own) H Q := by
  cases e
  exact q _ _ _ (r.store (by have := Bs.freeL hf hi; have k := Bs.freeI hf hi; unfold Bs.free; simp [this, k])) (by rw [set_out hi, wipe_wipe])
def gTupN (K : PySem.W.Frag) (is : List Nat) : TG := gTup K is.length (gNames is)
theorem names_mono : ∀ {is : List Nat} {vs : List V} {σ : L2.St} {H : Hp} {Q Q' : L2.St → Hp → Prop}, (∀ σ H, Q σ H → Q' σ H) → gNames is vs σ H Q → gNames is vs σ H Q'
  | [], _, _, _, _, _, w, ⟨h1, h2⟩ => ⟨h1, w _ _ h2⟩
  | _ :: _, _, _, _, _, _, w, ⟨v, r, e, h⟩ => ⟨v, r, e, names_mono w h⟩
theorem names_wipe {own : List Nat} : ∀ {is : List Nat} {vs : List V} {σ : L2.St} {H : Hp} {Q : L2.St → Hp → Prop}, (∀ i ∈ is, i ∈ own) → gNames is vs σ H (fun σ' H' => wipe σ' own = wipe σ own → Q σ' H') → gNames is vs σ H Q
  | [], _, _, _, _, _, ⟨h1, h2⟩ => ⟨h1, h2 rfl⟩
  | i :: is, _, _, _, _, hi, ⟨v, r, e, h⟩ => ⟨v, r, e, names_wipe (fun j hj => hi j (List.mem_cons_of_mem _ hj)) (names_mono (fun σ' H' h w => h (by rw [w, set_out (hi i List.mem_cons_self)])) h)⟩
theorem setsh_len : ∀ {is : List Nat} {vs : List Sv} {ds : List D} {svs : List Sv}, setsh vs is ds = some svs → ds.length = is.length := by
  intro is
  induction is with
  | nil => intro vs ds svs e; cases ds with
    | nil => rfl
    | cons d ds => cases e
  | cons i is ih => intro vs ds svs e; cases ds with
    | nil => cases e
    | cons d ds => simp [ih e]
theorem gg_tup {K : PySem.W.Frag} {own is : List Nat} (hf : B.free own = true) (hi : ∀ i ∈ is, i ∈ own) (T : Tm) (ρ : En) (F : List Addr) (d : D) (ρ' : En) (v : V) (σ : L2.St) (H : Hp) (Q : L2.St → Hp → Prop) (r : R B (T ++ [(d, v)]) ρ (wipe σ own) H F) (e : tgT is d ρ = some ρ')
    (q : ∀ σ' H' F', R B T ρ' σ' H' F' → wipe σ' own = wipe σ own → Q σ' H') : gTupN K is v (wipe σ own) H Q := by
  obtain ⟨F', r1, rd⟩ := freezeTmp r
  unfold tgT at e
  split at e
  · rename_i ds ed
    rw [ed] at rd
    cases rd with
    | @tup a vs _ _ h rl =>
      cases e1 : setsh ρ.vs is ds with
      | none => rw [e1] at e; cases e
      | some svs =>
        rw [e1] at e; cases e
        exact ⟨a, vs, rfl, SqT.of (hid_some h).2, by rw [← rl.length]; exact setsh_len e1, names_wipe hi (names_run (List.all_eq_true.mpr fun i h => List.all_eq_true.mp hf i (hi i h)) r1 rl e1 fun σ' H' F' z w => q σ' H' F' z (by rw [w, wipe_wipe]))⟩
  · cases e
theorem yes_imp : ∀ σ H Q, cT B evYes σ H Q → tYes σ H Q := fun σ H Q ⟨T, ρ, F, r, q⟩ => q _ _ r
theorem id_imp {fc : En → Out Bool} : ∀ σ H Q, cT B fc σ H Q → cT B fc σ H Q := fun _ _ _ z => z
variable {elt : Expr} {ifs : List Expr} {scope : Scope} {own : List (Str × Nat)} {fc : En → Out Bool}
theorem ev_lcN {i : Nat} {x : Str} {px : Pos} {tt : TT} (hc : X.calm = true) (hN : X.N.Nodup) (hi : PI X (.Name x px) iter (cI B it)) (ok : BlkOk X.N X.env.scope scope own) (hio : i ∈ own.map (·.2))
    (hg : ∀ (s : Shared) (H : Hp) (C : Addr) (cl : List (Str × Addr)) (fp : List Addr), PG (X.blk s H scope (compEnvC scope cl C X.env) fp) (.Name x px) (gName i))
    (ht : ∀ (s : Shared) (H : Hp) (C : Addr) (cl : List (Str × Addr)) (fp : List Addr), PTs (X.blk s H scope (compEnvC scope cl C X.env) fp) ifs tt) (hti : ∀ σ H Q, cT B.mute fc σ H Q → tt σ H Q)
    (he : ∀ (s : Shared) (H : Hp) (C : Addr) (cl : List (Str × Addr)) (fp : List Addr), PE (X.blk s H scope (compEnvC scope cl C X.env) fp) elt (cE B.mute fe)) (hs : ∀ x, foldedSetIterable iter X.env x = pure x := by intro _; rfl) (hme : B.free (own.map (·.2)) = true := by rfl) :
    PE X (.ListComp elt [⟨.Name x px, iter, ifs, 0⟩] scope pos) (cE B (evLc it (tgN i) fc fe (own.map (·.2)))) :=
  (pe_lc (g := gName i) hc hN hi ok hg ht he hs).imp fun σ H Q h => lc_run hme hti (fun _ _ _ z => z) _ (gg_name hme hio) h
theorem ev_lcT {is : List Nat} {es : List Expr} {k : Nat} {px : Pos} {tt : TT} (hc : X.calm = true) (hN : X.N.Nodup) (hi : PI X (.Tuple es k px) iter (cI B it)) (ok : BlkOk X.N X.env.scope scope own) (hio : ∀ i ∈ is, i ∈ own.map (·.2))
    (hg : ∀ (s : Shared) (H : Hp) (C : Addr) (cl : List (Str × Addr)) (fp : List Addr), PG (X.blk s H scope (compEnvC scope cl C X.env) fp) (.Tuple es k px) (gTupN X.K is))
    (ht : ∀ (s : Shared) (H : Hp) (C : Addr) (cl : List (Str × Addr)) (fp : List Addr), PTs (X.blk s H scope (compEnvC scope cl C X.env) fp) ifs tt) (hti : ∀ σ H Q, cT B.mute fc σ H Q → tt σ H Q)
    (he : ∀ (s : Shared) (H : Hp) (C : Addr) (cl : List (Str × Addr)) (fp : List Addr), PE (X.blk s H scope (compEnvC scope cl C X.env) fp) elt (cE B.mute fe)) (hs : ∀ x, foldedSetIterable iter X.env x = pure x := by intro _; rfl) (hme : B.free (own.map (·.2)) = true := by rfl) :
    PE X (.ListComp elt [⟨.Tuple es k px, iter, ifs, 0⟩] scope pos) (cE B (evLc it (tgT is) fc fe (own.map (·.2)))) :=
  (pe_lc (g := gTupN X.K is) hc hN hi ok hg ht he hs).imp fun σ H Q h => lc_run hme hti (fun _ _ _ z => z) _ (gg_tup hme hio) h
theorem es_setLcN {j : Nat} {y : Str} {py spos : Pos} {i : Nat} {x : Str} {px : Pos} {tt : TT} (hc : X.calm = true) (hN : X.N.Nodup) (hy : X.N[j]? = some y) (hyl : X.env.scope.names.lookup y = some .local)
    (hsw : swapsWith (.ListComp elt [⟨.Name x px, iter, ifs, 0⟩] scope pos) (some (.Name y py)) spos.line X.env = pure true) (hi : PI X (.Name x px) iter (cI B it)) (ok : BlkOk X.N X.env.scope scope own) (hio : i ∈ own.map (·.2))
    (hg : ∀ (s : Shared) (H : Hp) (C : Addr) (cl : List (Str × Addr)) (fp : List Addr), PG (X.blk s H scope (compEnvC scope cl C X.env) fp) (.Name x px) (gName i))
    (ht : ∀ (s : Shared) (H : Hp) (C : Addr) (cl : List (Str × Addr)) (fp : List Addr), PTs (X.blk s H scope (compEnvC scope cl C X.env) fp) ifs tt) (hti : ∀ σ H Q, cT B.mute fc σ H Q → tt σ H Q)
    (he : ∀ (s : Shared) (H : Hp) (C : Addr) (cl : List (Str × Addr)) (fp : List Addr), PE (X.blk s H scope (compEnvC scope cl C X.env) fp) elt (cE B.mute fe)) (hs : ∀ x, foldedSetIterable iter X.env x = pure x := by intro _; rfl) (hme : B.free (own.map (·.2)) = true := by rfl) (hmj : B.free [j] = true := by rfl) :
    PS X (.Assign [.Name y py] (.ListComp elt [⟨.Name x px, iter, ifs, 0⟩] scope pos) spos) (cS B (sAs j (evLc it (tgN i) fc fe (own.map (·.2))))) :=
  es_as (ps_setLc (g := gName i) hc hN hy hyl hsw hi ok hg ht he hs) (fun σ H Q h => lc_run hme hti (fun _ _ _ z => z) _ (gg_name hme hio) h) hmj
theorem es_setLcT {j : Nat} {y : Str} {py spos : Pos} {is : List Nat} {es : List Expr} {k : Nat} {px : Pos} {tt : TT} (hc : X.calm = true) (hN : X.N.Nodup) (hy : X.N[j]? = some y) (hyl : X.env.scope.names.lookup y = some .local)
    (hsw : swapsWith (.ListComp elt [⟨.Tuple es k px, iter, ifs, 0⟩] scope pos) (some (.Name y py)) spos.line X.env = pure true) (hi : PI X (.Tuple es k px) iter (cI B it)) (ok : BlkOk X.N X.env.scope scope own) (hio : ∀ i ∈ is, i ∈ own.map (·.2))
    (hg : ∀ (s : Shared) (H : Hp) (C : Addr) (cl : List (Str × Addr)) (fp : List Addr), PG (X.blk s H scope (compEnvC scope cl C X.env) fp) (.Tuple es k px) (gTupN X.K is))
    (ht : ∀ (s : Shared) (H : Hp) (C : Addr) (cl : List (Str × Addr)) (fp : List Addr), PTs (X.blk s H scope (compEnvC scope cl C X.env) fp) ifs tt) (hti : ∀ σ H Q, cT B.mute fc σ H Q → tt σ H Q)
    (he : ∀ (s : Shared) (H : Hp) (C : Addr) (cl : List (Str × Addr)) (fp : List Addr), PE (X.blk s H scope (compEnvC scope cl C X.env) fp) elt (cE B.mute fe)) (hs : ∀ x, foldedSetIterable iter X.env x = pure x := by intro _; rfl) (hme : B.free (own.map (·.2)) = true := by rfl) (hmj : B.free [j] = true := by rfl) :
    PS X (.Assign [.Name y py] (.ListComp elt [⟨.Tuple es k px, iter, ifs, 0⟩] scope pos) spos) (cS B (sAs j (evLc it (tgT is) fc fe (own.map (·.2))))) :=
  es_as (ps_setLc (g := gTupN X.K is) hc hN hy hyl hsw hi ok hg ht he hs) (fun σ H Q h => lc_run hme hti (fun _ _ _ z => z) _ (gg_tup hme hio) h) hmj
inductive Res where
  | ok (d : D) (st : RSt)
  | ex (x : Exc) (st : RSt)
  | no
abbrev Den := List D → RSt → Res
def Ext (S : Gs) (H H' : Hp) : Prop := ∀ a o, H a = some o → a ∉ sA S → H' a = some o
def spF (cl : Str → Addr) (n : Nat) (den : Den) : Sp := fun vs H Q E => vs.length = n ∧ ∃ S M ds st, S.cl = cl ∧ RpL S H (hid M H) ds vs [] ∧ StOk S st H ∧ (∀ a ∈ sA S, a ∈ M) ∧ (∀ a ∈ M, Nt H a) ∧ HLen H ∧ match den ds st with
  | .ok d st' => ∀ v H' Fr, Ext S H H' → StOk S st' H' → HLen H' → (∀ a ∈ Fr, H a = none) → Fr.Nodup → (∀ a ∈ Fr, H' a ≠ none) → Rp S H' (hid (M ++ Fr) H') d v Fr → Q v H'
  | .ex x st' => ∀ cls dd H', XR S x cls dd (hid M H') → Ext S H H' → StOk S st' H' → HLen H' → E cls dd H'
  | .no => False
def evCall (den : Den) (ps : List Opd) : En → Out D := fun ρ => (evOps ps ρ).bind fun ds ρ' => match den (ds.map fz) ρ'.st with
  | .ok d st' => if clo d = true then .ok d { ρ' with st := st' } else .ok d { vs := frzS (isVar ps) 0 ρ'.vs, st := st' }
  | .ex x st' => .ex x { vs := frzS (isVar ps) 0 ρ'.vs, st := st' }
  | .no => .no
def clsAt (K : PySem.W.Frag) (x : Str) : Addr := match PySem.W.nsIn K mainGlobals x with
  | some (some (.ref C)) => C
  | _ => 0
def CalOk (P : Program) (w : World) (K : PySem.W.Frag) (mg : Str → Option Value) (base : Heap) (k : Nat) (x : Str) (n : Nat) (den : Den) : Prop :=
  ∃ (f : Addr) (fd : FuncData) (ps : List Str), mg x = some (.ref f) ∧ PySem.W.keepIn K (.ref f) = true ∧ Binds K fd ps [] ∧ FnOk P w K mg base (L2.CX P w) k f fd ps (spF (clsAt K) n den)
theorem R.thin {B : Bs} {T : Tm} {ρ : En} {σ : L2.St} {H : Hp} {F : List Addr} (h : R B T ρ σ H F) : ∃ F', R B T ρ σ H F' ∧ ∀ a ∈ F', ∀ vs, H a ≠ some (.tup vs) := by
  obtain ⟨fp, p⟩ := h.pt
  let P : Addr → Prop := fun a => ∀ vs, H a ≠ some (.tup vs)
  have dec : DecidablePred P := fun a => Classical.propDecidable _
  have mem : ∀ a, a ∈ F.filter (fun a => decide (P a)) ↔ a ∈ F ∧ P a := fun a => by rw [List.mem_filter, decide_eq_true_eq]
  have keep : ∀ {d : D} {v : V} {Hs : Hp} {G : List Addr}, Rp B.S H Hs d v G → G.filter (fun a => decide (P a)) = G := fun r => List.filter_eq_self.mpr fun a ha => decide_eq_true (r.noTup a ha)
  have up : ∀ a o, hid (B.M ++ F) H a = some o → hid (B.M ++ F.filter (fun a => decide (P a))) H a = some o := fun a o e => by
    obtain ⟨n, e⟩ := hid_some e
    refine hid_of e fun m => n ?_
    rcases List.mem_append.mp m with m | m
    · exact List.mem_append_left _ m
    · exact List.mem_append_right _ ((mem a).mp m).1
  refine ⟨F.filter fun a => decide (P a), { h with pt := ⟨fun i => (fp i).filter fun a => decide (P a), ⟨fun j d v e => ?_, fun i s e => ?_, fun i => (p.nd i).sublist List.filter_sublist, fun i j a hi hj => p.ap i j a ((List.mem_filter.mp hi).1) ((List.mem_filter.mp hj).1), fun i a ha => ?_⟩⟩, dj := fun a ha z => h.dj a ha ((mem a).mp z).1, new := fun a ha => h.new a ((mem a).mp ha).1, own := fun a ha => h.own a ((mem a).mp ha).1 }, fun a ha => ((mem a).mp ha).2⟩
  · have r := p.tm j d v e
    have k := keep r
    show Rp _ _ _ _ _ ((fp (.inl j)).filter _)
    rw [k]
    exact r.mono (fun _ _ _ z => z) up
  · cases s with
    | no => trivial
    | sh d =>
      obtain ⟨v, ev, r⟩ := p.sl i _ e
      exact ⟨v, ev, r.mono (fun _ z => nomatch z) up⟩
    | ow d =>
      obtain ⟨v, ev, r⟩ := p.sl i _ e
      refine ⟨v, ev, ?_⟩
      have k := keep r
      show Rp _ _ _ _ _ ((fp (.inr i)).filter _)
      rw [k]
      exact r.mono (fun _ _ _ z => z) up
  · exact (mem a).mpr ⟨p.sub i a ((List.mem_filter.mp ha).1), of_decide_eq_true (List.mem_filter.mp ha).2⟩
theorem call_run {cl : Str → Addr} (hcl : B.S.cl = cl) {n : Nat} {den : Den} {ps : List Opd} {W : WX} (hW : B.W = W) {σ : L2.St} {H : Hp} {Q : VK} (h : cE B (evCall den ps) σ H Q) (hn : ps.length = n) : tOps B ps σ H fun vs H' => spF cl n den vs H' Q (WE B.W σ) := by
  obtain ⟨T, ρ, F, r, q⟩ := h
  refine ops_run r (Out.wp_mono (Out.wp_bind q) (fun ds ρ' q vs H' F' ts r' o => ?_) fun _ _ z => z)
  obtain ⟨F', r', nt⟩ := r'.thin
  obtain ⟨F1, r1, rl, sub⟩ := r'.shareOps o (isVar ps) (fun _ z => z)
  refine ⟨by rw [← o.len, ops_len o, hn], B.S, B.M ++ F1, ds.map fz, ρ'.st, hcl, rl, r'.st, fun a ha => List.mem_append_left _ (r'.sM a ha), fun a ha => ?_, r'.hl, ?_⟩
  · rcases List.mem_append.mp ha with z | z
    · exact (r'.md a z).up fun _ e => e
    · exact Nt.of (r1.own a z) (nt a (sub a z))
  · cases e : den (ds.map fz) ρ'.st with
    | no => rw [e] at q; exact q.elim
    | ok d st' =>
      rw [e] at q
      dsimp only at q ⊢
      intro v H2 Fr ext stok hl fresh nd own rr
      by_cases hc : clo d = true
      · rw [if_pos hc] at q
        exact q v H2 _ (r'.drop.after ext stok hl fresh nd own (rr.clo hc (fun _ _ _ z => z) fun a us e => by
          obtain ⟨n, e⟩ := hid_some e
          refine hid_of e fun m => ?_
          rcases List.mem_append.mp m with m | m
          · exact n (List.mem_append_left _ (List.mem_append_left _ m))
          · rcases List.mem_append.mp m with m | m
            · cases e1 : H' a with
              | none => exact r'.own a m e1
              | some u =>
                have := ext a u e1 fun z => r'.dj a (r'.sM a z) m
                rw [this] at e
                cases e
                exact nt a m _ e1
            · exact n (List.mem_append_right _ m)))
      · rw [if_neg hc] at q
        exact q v H2 _ (r1.after ext stok hl fresh nd own (by rw [← List.append_assoc]; exact rr))
    | ex x st' =>
      rw [e] at q
      dsimp only at q ⊢
      intro cls dd H2 xr ext stok hl
      have := r1.after (d := .non) (v := .non) (Fr := []) ext stok hl (fun _ z => nomatch z) List.nodup_nil (fun _ z => nomatch z) .non
      exact q cls dd H2 _ (by rw [List.append_nil]; exact xr) this.drop
theorem ev_call {x : Str} {p : Pos} {es : List Expr} {ps : List Opd} {k n : Nat} {den : Den} (F : CalOk X.prog X.w X.K X.mg X.base k x n den) (hr : Room k X.A) (hg : Gl X x) (hcl : B.S.cl = clsAt X.K) (tk : Takes X B.W) (ha : EA X B (e :: es) ps) (hn : ps.length = n := by rfl)
    (hdb : (x == ("__debug__" : Str)) = false := by decide) (he : starEach (e :: es) X.env = (false, eval e X.env) :: starEach es X.env := by rfl) (hpl : (backTo pos (starEach es X.env)).any (·.1) = false := by rfl) : PE X (.Call (.Name x p) (e :: es) [] pos) (cE B (evCall den ps)) := by
  obtain ⟨f, fd, pn, hm, hk, hb, G⟩ := F
  exact (pe_callS G hr hg hm hk hb (fun σ => passAt tk σ) ha.run hdb he hpl).imp fun σ H Q h => call_run hcl rfl h hn
end
def fnRes (g : En → Out Fl) (k : Nat) : Den := fun ds st => match g ⟨ds.map .sh ++ List.replicate k .no, st⟩ with
  | .ok .nx ρ => .ok .non ρ.st
  | .ok (.rt d) ρ => .ok d ρ.st
  | .ok _ _ => .no
  | .ex x ρ => .ex x ρ.st
  | .no => .no
def BodyOk (P : Program) (w : World) (K : PySem.W.Frag) (mg : Str → Option Value) (base : Heap) (N : List Str) (qual : Str) (st : Stmt) (f : Addr) (k : Nat) (g : En → Out Fl) : Prop :=
  ∀ (cdv : Value) (A : Around) (outer : List Env) (s : Shared) (H : Hp) (E : XK) (S : Gs) (M : List Addr), S.cl = clsAt K → Room k (A.deeper (envOfC qual (defScope st) s.heap.objs.size f cdv)) →
    PSs (cxOf (L2.CX P w) P w K mg base N qual (defScope st) f cdv A outer s H E) (defBody st) (cS { H0 := H, S := S, M := M, W := fun cls d _ H' => E cls d H' } g)
section
variable {P : Program} {w : World} {K : PySem.W.Frag} {mg : Str → Option Value} {base : Heap}
theorem start_R {S : Gs} {M : List Addr} {W : WX} {N : List Str} {ds : List D} {vs : List V} {H : Hp} {st : RSt} {k : Nat} (rl : RpL S H (hid M H) ds vs []) (ok : StOk S st H) (sM : ∀ a ∈ sA S, a ∈ M) (md : ∀ a ∈ M, Nt H a) (hl : HLen H) (hk : N.length = vs.length + k) :
    R { H0 := H, S := S, M := M, W := W } [] ⟨ds.map .sh ++ List.replicate k .no, st⟩ (L2.start N vs) H [] := by
  have e : N.length - vs.length = k := by omega
  refine ⟨by simp [L2.start, rl.length, e], .inl rfl, .inl rfl, ⟨fun _ => [], (fun j d v z => by simp at z), fun i s z => ?_, fun _ => List.nodup_nil, (fun _ _ _ z => nomatch z), (fun _ _ z => nomatch z)⟩, (fun _ _ z => nomatch z), sM, md, ok, (fun _ _ z _ => z), (fun _ z => nomatch z), hl, (fun _ z => nomatch z), (fun _ _ z => nomatch z)⟩
  dsimp only at z ⊢
  rw [List.append_nil]
  by_cases hi : i < ds.length
  · rw [List.getElem?_append_left (by simpa using hi), List.getElem?_map] at z
    cases e1 : ds[i]? with
    | none => rw [e1] at z; cases z
    | some d =>
      rw [e1] at z; cases z
      obtain ⟨v, hv, r⟩ := rl.get0 e1
      refine ⟨v, ?_, r⟩
      rw [Bs.loc_L rfl]
      unfold L2.start
      rw [List.getElem?_append_left (by rw [List.length_map, ← rl.length]; exact hi), List.getElem?_map, hv]; rfl
  · rw [List.getElem?_append_right (by simpa using Nat.le_of_not_lt hi), List.getElem?_replicate] at z
    split at z
    · cases z; trivial
    · cases z
theorem fn_ok {x qual : Str} {st : Stmt} {f : Addr} {fd : FuncData} {N ps : List Str} {k : Nat} {g : En → Out Fl} (F : Fun K x qual st f fd) (Sc : FnScope N ps (defScope st)) (j : Nat) (hk : N.length = ps.length + j) (h : BodyOk P w K mg base N qual st f k g) :
    FnOk P w K mg base (L2.CX P w) (k + 1) f fd ps (spF (clsAt K) ps.length (fnRes g j)) := by
  refine F.okX Sc (fun vs H Q E h => h.1) fun cdv A outer s H vs Q E hr ⟨hn, S, M, ds, st', hcl, rl, ok, sM, md, hl, q⟩ => ?_
  refine ⟨_, h cdv A outer s H E S M hcl hr, [], _, [], start_R (W := fun cls d _ H' => E cls d H') rl ok sM md hl (by rw [hn]; exact hk), ?_⟩
  unfold fnRes at q
  cases e : g ⟨ds.map .sh ++ List.replicate j .no, st'⟩ with
  | no => rw [e] at q; exact q.elim
  | ex x ρ =>
    rw [e] at q
    exact fun cls d σ H' F' xr r => q cls d H' (xr.mono fun a o z => by
      obtain ⟨n, z⟩ := hid_some z
      exact hid_of z fun m => n (List.mem_append_left _ m)) (fun a o z n => r.ext a o z n) r.st r.hl
  | ok fl ρ =>
    rw [e] at q
    cases fl with
    | nx =>
      intro σ H' F' r
      exact q _ H' [] (fun a o z n => r.ext a o z n) r.st r.hl (fun _ z => nomatch z) List.nodup_nil (fun _ z => nomatch z) .non
    | rt d =>
      intro v σ H' F' r
      obtain ⟨fp, p⟩ := r.pt
      have rv := p.tm 0 d v (by simp)
      have hs := p.sub (.inl 0)
      refine q v H' (fp (.inl 0)) (fun a o z n => r.ext a o z n) r.st r.hl (fun a ha => r.new a (hs a ha)) (p.nd _) (fun a ha => r.own a (hs a ha)) (rv.mono (fun _ _ _ z => z) fun a o e => ?_)
      obtain ⟨n, e⟩ := hid_some e
      refine hid_of e fun m => n ?_
      rcases List.mem_append.mp m with m | m
      · exact List.mem_append_left _ m
      · exact List.mem_append_right _ (hs a m)
    | bk => exact q.elim
    | ct => exact q.elim
theorem cal_ok {x qual : Str} {st : Stmt} {f : Addr} {fd : FuncData} {N ps : List Str} {k : Nat} {g : En → Out Fl} (F : Fun K x qual st f fd) (hm : mg x = some (.ref f)) (b : Binds K fd ps []) (Sc : FnScope N ps (defScope st)) (j n : Nat) (hk : N.length = ps.length + j) (hn : ps.length = n) (h : BodyOk P w K mg base N qual st f k g) :
    CalOk P w K mg base (k + 1) x n (fnRes g j) := ⟨f, fd, ps, hm, F.kp, b, by rw [← hn]; exact fn_ok F Sc j hk h⟩
theorem CalOk.mono {k k' : Nat} {x : Str} {n : Nat} {den : Den} (h : CalOk P w K mg base k x n den) (hk : k ≤ k') : CalOk P w K mg base k' x n den := by
  obtain ⟨f, fd, pn, hm, hkp, hb, G⟩ := h
  exact ⟨f, fd, pn, hm, hkp, hb, G.mono hk⟩
end
end Fw

namespace Fw
open PySem PySem.Spec PyProof.Rows L2
section
variable {X : Cx} {B : Bs} {T ts : Tm} {ρ : En} {σ : L2.St} {H : Hp} {F : List Addr} {ps : List Opd} {ds : List D} {vs : List V} {Q : VK} {d d1 d2 d3 : D}
theorem OpV.one (h : R B (T ++ ts) ρ σ H F) (o : OpV B ρ σ ps ts [d] vs) : ∃ v G, vs = [v] ∧ RpB B H F d v G := by
  obtain ⟨v, G, e, r⟩ := o.at h 0 d rfl
  have hl := o.len
  match vs, hl, e with
  | [x], _, e => cases e; exact ⟨_, G, rfl, r⟩
theorem OpV.two (h : R B (T ++ ts) ρ σ H F) (o : OpV B ρ σ ps ts [d1, d2] vs) : ∃ v1 v2 G1 G2, vs = [v1, v2] ∧ RpB B H F d1 v1 G1 ∧ RpB B H F d2 v2 G2 := by
  obtain ⟨v1, G1, e1, r1⟩ := o.at h 0 d1 rfl
  obtain ⟨v2, G2, e2, r2⟩ := o.at h 1 d2 rfl
  have hl := o.len
  match vs, hl, e1, e2 with
  | [x, y], _, e1, e2 => cases e1; cases e2; exact ⟨_, _, G1, G2, rfl, r1, r2⟩
theorem RpB.int {i : Int} {v : V} {G : List Addr} (r : RpB B H F (.int i) v G) : v = .int i := by obtain ⟨r, _⟩ := r; cases r; rfl
theorem RpB.bl {i : Bool} {v : V} {G : List Addr} (r : RpB B H F (.bl i) v G) : v = .bl i := by obtain ⟨r, _⟩ := r; cases r; rfl
theorem RpB.str {i : Str} {v : V} {G : List Addr} (r : RpB B H F (.str i) v G) : v = .str i := by obtain ⟨r, _⟩ := r; cases r; rfl
theorem RpB.non {v : V} {G : List Addr} (r : RpB B H F .non v G) : v = .non := by obtain ⟨r, _⟩ := r; cases r; rfl
def opI2 (C : Int → Int → Bool) (g : Int → Int → Int) : List D → Option D
  | [.int i, .int j] => if C i j = true then some (.int (g i j)) else none
  | _ => none
theorem opI2_S {C : Int → Int → Bool} {P : Int → Int → Prop} {g : Int → Int → Int} (hC : ∀ i j, C i j = true → P i j) : OpS B (rr2 (rI P fun i j => .int (g i j))) (opI2 C g) := by
  intro T ts ρ σ H F ps ds vs Q d h o e q
  unfold opI2 at e
  split at e
  · split at e
    · cases e
      obtain ⟨v1, v2, G1, G2, rfl, r1, r2⟩ := o.two h
      exact ⟨_, _, r1.int, r2.int, hC _ _ (by assumption), q _ _ _ (h.drop.push (.int _))⟩
    · cases e
  · cases e
def yesC (_ _ : Int) : Bool := true
theorem opI2_0 {g : Int → Int → Int} : OpS B (rr2 (rI0 fun i j => .int (g i j))) (opI2 yesC g) := by
  intro T ts ρ σ H F ps ds vs Q d h o e q
  unfold opI2 at e
  split at e
  · split at e
    · cases e
      obtain ⟨v1, v2, G1, G2, rfl, r1, r2⟩ := o.two h
      exact ⟨_, _, r1.int, r2.int, q _ _ _ (h.drop.push (.int _))⟩
    · cases e
  · cases e
def opC2 (g : Int → Int → Bool) : List D → Option D
  | [.int i, .int j] => some (.bl (g i j))
  | _ => none
theorem opC2_S {g : Int → Int → Bool} : OpS B (rr2 (rI0 fun i j => .bl (g i j))) (opC2 g) := by
  intro T ts ρ σ H F ps ds vs Q d h o e q
  unfold opC2 at e
  split at e
  · cases e
    obtain ⟨v1, v2, G1, G2, rfl, r1, r2⟩ := o.two h
    exact ⟨_, _, r1.int, r2.int, q _ _ _ (h.drop.push (.bl _))⟩
  · cases e
def opNeg : List D → Option D
  | [.int i] => some (.int (-i))
  | _ => none
theorem opNeg_S : OpS B (rr1 (rU fun i => .int (-i))) opNeg := by
  intro T ts ρ σ H F ps ds vs Q d h o e q
  unfold opNeg at e
  split at e
  · cases e
    obtain ⟨v1, G1, rfl, r1⟩ := o.one h
    exact ⟨_, r1.int, q _ _ _ (h.drop.push (.int _))⟩
  · cases e
def seqOf : D → Option (Bool × List D)
  | .lst false xs => some (true, xs)
  | .lst true xs => if shrL xs = true then some (true, xs) else none
  | .tup xs => if shrL xs = true then some (false, xs) else none
  | _ => none
theorem seqOf_rp {v : V} {G : List Addr} {b : Bool} {xs : List D} (r : RpB B H F d v G) (e : seqOf d = some (b, xs)) :
    ∃ a vs, v = .ref a ∧ (if b = true then H a = some (.lst vs) else H a = some (.tup vs)) ∧ RpL B.S H (hid (B.M ++ F) H) xs vs [] := by
  obtain ⟨r, hG⟩ := r
  unfold seqOf at e
  split at e
  · cases e
    cases r with
    | lstS h r => exact ⟨_, _, rfl, by rw [if_pos rfl]; exact (hid_some h).2, r⟩
  · split at e
    · cases e
      cases r with
      | lstO h r =>
        rename_i hs a vs F1
        have := r.shr hs
        rw [this] at r
        exact ⟨_, _, rfl, by rw [if_pos rfl]; exact h, r⟩
    · cases e
  · split at e
    · cases e
      cases r with
      | tup h r =>
        rename_i hs a vs
        have := r.shr hs
        rw [this] at r
        exact ⟨_, _, rfl, by rw [if_neg (by simp)]; exact (hid_some h).2, r⟩
    · cases e
  · cases e
theorem seqOf_tup {v : V} {G : List Addr} {xs : List D} (r : RpB B H F d v G) (e : seqOf d = some (false, xs)) : Rp B.S H (hid (B.M ++ F) H) (.tup xs) v [] := by
  obtain ⟨r, hG⟩ := r
  unfold seqOf at e
  split at e
  · cases e
  · split at e <;> cases e
  · split at e
    · cases e
      rename_i hs
      have := r.shr (by rw [shr]; exact hs)
      rw [this] at r
      exact r
    · cases e
  · cases e
theorem R.pushL {xs : List D} : ∀ {T : Tm} {vs : List V}, R B T ρ σ H F → RpL B.S H (hid (B.M ++ F) H) xs vs [] → R B (T ++ xs.zip vs) ρ σ H F := by
  induction xs with
  | nil => intro T vs h r; simpa using h
  | cons x xs ih =>
    intro T vs h r
    cases vs with
    | nil => simpa using h
    | cons v vs =>
      obtain ⟨r1, r2⟩ := r.cons_nil
      have := ih (h.push r1) r2
      rw [List.append_assoc] at this
      exact this
theorem zip_fst {xs : List D} {vs : List V} (h : xs.length = vs.length) : (xs.zip vs).map (·.1) = xs := by
  rw [List.map_fst_zip]; omega
theorem zip_snd {xs : List D} {vs : List V} (h : xs.length = vs.length) : (xs.zip vs).map (·.2) = vs := by
  rw [List.map_snd_zip]; omega
theorem R.newL {xs : List D} {vs : List V} {p : Addr} (h : R B T ρ σ H F) (r : RpL B.S H (hid (B.M ++ F) H) xs vs []) (hp : H p = none) (hz : vs.length ≤ sizeLine) : R B (T ++ [(.lst true xs, .ref p)]) ρ σ (upd H p (.lst vs)) (p :: F) := by
  have hl := r.length
  have := (h.pushL r).mkLst hp (by rw [List.length_zip]; omega)
  rw [zip_fst hl, zip_snd hl] at this
  exact this
theorem R.newT {xs : List D} {vs : List V} {p : Addr} (h : R B T ρ σ H F) (r : RpL B.S H (hid (B.M ++ F) H) xs vs []) (hp : H p = none) (hz : vs.length ≤ sizeLine) : R B (T ++ [(.tup xs, .ref p)]) ρ σ (upd H p (.tup vs)) F := by
  have hl := r.length
  have := (h.pushL r).mkTup hp (by rw [List.length_zip]; omega)
  rw [zip_fst hl, zip_snd hl] at this
  exact this
theorem ifL {b : Bool} {a : Addr} {K : PySem.W.Frag} {vs : List V} (h : if b = true then H a = some (.lst vs) else H a = some (.tup vs)) : SqL K H a vs ∨ SqT K H a vs := by
  split at h
  · exact .inl (SqL.of h)
  · exact .inr (SqT.of h)
theorem R.len_le {b : Bool} {a : Addr} {vs : List V} (r : R B T ρ σ H F) (h : if b = true then H a = some (.lst vs) else H a = some (.tup vs)) : vs.length ≤ sizeLine := by
  split at h
  · exact r.hl a vs (.inl h)
  · exact r.hl a vs (.inr h)
def rAddA (K : PySem.W.Frag) : R2 := fun x y H Q => ((rI0 fun i j => V.int (i + j)) x y H Q ∨ (∃ i j, x = .str i ∧ y = .str j ∧ i.length + j.length ≤ sizeLine ∧ Q (.str (i ++ j)) H)) ∨ (rCat x y H Q ∨ rCatA K x y H Q)
theorem op_addA : OpR X (binaryOp .Add) (rAddA X.K) := (OpR.or op_add op_add_str).or (op_cat.or op_catA)
def opAdd : List D → Option D
  | [.int i, .int j] => some (.int (i + j))
  | [.str i, .str j] => if i.length + j.length ≤ sizeLine then some (.str (i ++ j)) else none
  | [a, b] => match seqOf a, seqOf b with
    | some (true, xs), some (true, ys) => if xs.length + ys.length ≤ sizeLine then some (.lst true (xs ++ ys)) else none
    | some (false, xs), some (false, ys) => if xs.length + ys.length ≤ sizeLine then some (.tup (xs ++ ys)) else none
    | _, _ => none
  | _ => none
theorem opAdd_S {K : PySem.W.Frag} : OpS B (rr2 (rAddA K)) opAdd := by
  intro T ts ρ σ H F ps ds vs Q d h o e q
  unfold opAdd at e
  split at e
  · cases e
    obtain ⟨v1, v2, G1, G2, rfl, r1, r2⟩ := o.two h
    exact .inl (.inl ⟨_, _, r1.int, r2.int, q _ _ _ (h.drop.push (.int _))⟩)
  · split at e
    · cases e
      obtain ⟨v1, v2, G1, G2, rfl, r1, r2⟩ := o.two h
      exact .inl (.inr ⟨_, _, r1.str, r2.str, by assumption, q _ _ _ (h.drop.push (.str _))⟩)
    · cases e
  · obtain ⟨v1, v2, G1, G2, rfl, r1, r2⟩ := o.two h
    split at e
    · rename_i e1 e2
      split at e
      · cases e
        obtain ⟨a, vs, rfl, ha, ra⟩ := seqOf_rp r1 e1
        obtain ⟨b, ws, rfl, hb, rb⟩ := seqOf_rp r2 e2
        rw [if_pos rfl] at ha hb
        have hz : vs.length + ws.length ≤ sizeLine := by rw [← ra.length, ← rb.length]; assumption
        exact .inr (.inl ⟨a, b, vs, ws, rfl, rfl, ha, hb, hz, fun p hp => q _ _ _ (h.drop.newL (ra.append rb) hp (by rw [List.length_append]; exact hz))⟩)
      · cases e
    · rename_i e1 e2
      split at e
      · cases e
        obtain ⟨a, vs, rfl, ha, ra⟩ := seqOf_rp r1 e1
        obtain ⟨b, ws, rfl, hb, rb⟩ := seqOf_rp r2 e2
        rw [if_neg (by simp)] at ha hb
        have hz : vs.length + ws.length ≤ sizeLine := by rw [← ra.length, ← rb.length]; assumption
        refine .inr (.inr ⟨a, b, vs, ws, rfl, rfl, SqT.of ha, SqT.of hb, hz, fun e => ?_, fun _ e => ?_, fun _ _ p hp => q _ _ _ (h.drop.newT (ra.append rb) hp (by rw [List.length_append]; exact hz))⟩)
        · subst e
          have e0 := List.eq_nil_of_length_eq_zero ra.length
          subst e0
          exact q _ _ _ (h.drop.push (seqOf_tup r2 e2))
        · subst e
          have e0 := List.eq_nil_of_length_eq_zero rb.length
          subst e0
          rw [List.append_nil] at q
          exact q _ _ _ (h.drop.push (seqOf_tup r1 e1))
      · cases e
    · cases e
  · cases e
theorem seqOf_lst {v : V} {G : List Addr} {xs : List D} (r : RpB B H F d v G) (e : seqOf d = some (true, xs)) : ∃ a vs, v = .ref a ∧ H a = some (.lst vs) ∧ RpL B.S H (hid (B.M ++ F) H) xs vs [] := by
  obtain ⟨a, vs, h1, h2, h3⟩ := seqOf_rp r e
  exact ⟨a, vs, h1, by rw [if_pos rfl] at h2; exact h2, h3⟩
theorem seqOf_tp {v : V} {G : List Addr} {xs : List D} (r : RpB B H F d v G) (e : seqOf d = some (false, xs)) : ∃ a vs, v = .ref a ∧ H a = some (.tup vs) ∧ RpL B.S H (hid (B.M ++ F) H) xs vs [] := by
  obtain ⟨a, vs, h1, h2, h3⟩ := seqOf_rp r e
  exact ⟨a, vs, h1, by rw [if_neg (by simp)] at h2; exact h2, h3⟩
def rMulA : R2 := fun x y H Q => (rI CMul fun i j => .int (i * j)) x y H Q ∨ rRep x y H Q
theorem op_mulA : OpR X (binaryOp .Mult) rMulA := OpR.or op_mul op_rep
def repL (xs : List D) : Nat → List D
  | 0 => []
  | n + 1 => xs ++ repL xs n
def opMul : List D → Option D
  | [.int i, .int j] => if (decide (-(2 ^ 64) < i) && decide (i < 2 ^ 64)) || (decide (-(2 ^ 64) < j) && decide (j < 2 ^ 64)) then some (.int (i * j)) else none
  | [a, .int k] => match seqOf a with
    | some (true, xs) => if decide (-(2 ^ 63) ≤ k) && decide (k < 2 ^ 63) && decide (xs.length * k.toNat ≤ sizeLine) then some (.lst true (repL xs k.toNat)) else none
    | _ => none
  | _ => none
theorem RpL.rep {S : Gs} {H Hs : Hp} {xs : List D} {vs : List V} (h : RpL S H Hs xs vs []) : ∀ n, RpL S H Hs (repL xs n) (List.replicate n vs).flatten []
  | 0 => .nil
  | n + 1 => by rw [repL, List.replicate_succ, List.flatten_cons]; exact RpL.append (F := []) (G := []) h (RpL.rep h n)
theorem repL_len (xs : List D) : ∀ n, (repL xs n).length = n * xs.length
  | 0 => by simp [repL]
  | n + 1 => by rw [repL, List.length_append, repL_len xs n, Nat.succ_mul, Nat.add_comm]
theorem opMul_S : OpS B (rr2 rMulA) opMul := by
  intro T ts ρ σ H F ps ds vs Q d h o e q
  unfold opMul at e
  split at e
  · split at e
    · rename_i hc
      cases e
      obtain ⟨v1, v2, G1, G2, rfl, r1, r2⟩ := o.two h
      simp only [Bool.or_eq_true, Bool.and_eq_true, decide_eq_true_eq] at hc
      exact .inl ⟨_, _, r1.int, r2.int, hc, q _ _ _ (h.drop.push (.int _))⟩
    · cases e
  · split at e
    · rename_i e1
      split at e
      · rename_i hc
        cases e
        obtain ⟨v1, v2, G1, G2, rfl, r1, r2⟩ := o.two h
        obtain ⟨a, vs, rfl, ha, ra⟩ := seqOf_lst r1 e1
        simp only [Bool.and_eq_true, decide_eq_true_eq] at hc
        refine .inr ⟨a, _, vs, rfl, r2.int, ha, hc.1.1, hc.1.2, by rw [← ra.length]; exact hc.2, fun p hp => q _ _ _ (h.drop.newL (ra.rep _) hp ?_)⟩
        rw [← (ra.rep _).length, repL_len, Nat.mul_comm]
        exact hc.2
      · cases e
    · cases e
  · cases e
def eqS : D → D → Option Bool
  | .int i, .int j => some (decide (i = j))
  | .str i, .str j => some (decide (i = j))
  | .bl i, .bl j => some (decide (i = j))
  | .non, .non => some true
  | .non, .int _ => some false
  | .int _, .non => some false
  | .non, .str _ => some false
  | .str _, .non => some false
  | .int _, .str _ => some false
  | .str _, .int _ => some false
  | _, _ => none
theorem eqS_rp {v1 v2 : V} {G1 G2 : List Addr} {b : Bool} (r1 : RpB B H F d1 v1 G1) (r2 : RpB B H F d2 v2 G2) (e : eqS d1 d2 = some b) : scal v1 v2 = true ∧ decide (v1 = v2) = b := by
  obtain ⟨r1, _⟩ := r1
  obtain ⟨r2, _⟩ := r2
  unfold eqS at e
  split at e <;> first | cases e | skip
  all_goals (cases r1; cases r2)
  · exact ⟨rfl, by rw [dec_int]; exact Bool.beq_eq_decide_eq _ _⟩
  · exact ⟨rfl, decide_eq_decide.mpr ⟨fun h => by injection h, fun h => by rw [h]⟩⟩
  · exact ⟨rfl, by rw [dec_bl]; exact Bool.beq_eq_decide_eq _ _⟩
  all_goals first | exact ⟨rfl, rfl⟩ | exact ⟨rfl, by simp⟩
def rLenA (K : PySem.W.Frag) : List V → Hp → VK → Prop := fun xs H Q => ((∃ p ys, xs = [.ref p] ∧ (SqL K H p ys ∨ SqT K H p ys) ∧ Q (.int ys.length) H) ∨ (∃ z, xs = [.str z] ∧ z.length ≤ sizeLine ∧ Q (.int z.length) H))
theorem call_lenA : CallR X (.builtin "len") (rLenA X.K) := CallR.or call_len_seq call_len_str
def opLen : List D → Option D
  | [.str z] => if z.length ≤ sizeLine then some (.int z.length) else none
  | [.lst _ xs] => some (.int xs.length)
  | [.tup xs] => some (.int xs.length)
  | _ => none
theorem lst_rp {v : V} {G : List Addr} {o : Bool} {xs : List D} (r : RpB B H F (.lst o xs) v G) : ∃ a vs, v = .ref a ∧ H a = some (.lst vs) ∧ xs.length = vs.length := by
  obtain ⟨r, _⟩ := r
  cases r with
  | lstS h r => exact ⟨_, _, rfl, (hid_some h).2, r.length⟩
  | lstO h r => exact ⟨_, _, rfl, h, r.length⟩
theorem tup_rp {v : V} {G : List Addr} {xs : List D} (r : RpB B H F (.tup xs) v G) : ∃ a vs, v = .ref a ∧ H a = some (.tup vs) ∧ xs.length = vs.length := by
  obtain ⟨r, _⟩ := r
  cases r with
  | tup h r => exact ⟨_, _, rfl, (hid_some h).2, r.length⟩
theorem opLen_S {K : PySem.W.Frag} : OpS B (rLenA K) opLen := by
  intro T ts ρ σ H F ps ds vs Q d h o e q
  unfold opLen at e
  split at e
  · split at e
    · cases e
      obtain ⟨v1, G1, rfl, r1⟩ := o.one h
      exact .inr ⟨_, by rw [r1.str], by assumption, q _ _ _ (h.drop.push (.int _))⟩
    · cases e
  · cases e
    obtain ⟨v1, G1, rfl, r1⟩ := o.one h
    obtain ⟨a, vs, rfl, ha, hl⟩ := lst_rp r1
    exact .inl ⟨a, vs, rfl, .inl (SqL.of ha), q _ _ _ (h.drop.push (by rw [hl]; exact .int _))⟩
  · cases e
    obtain ⟨v1, G1, rfl, r1⟩ := o.one h
    obtain ⟨a, vs, rfl, ha, hl⟩ := tup_rp r1
    exact .inl ⟨a, vs, rfl, .inr (SqT.of ha), q _ _ _ (h.drop.push (by rw [hl]; exact .int _))⟩
  · cases e
def opIx : List D → Option D
  | [a, .int i] => match seqOf a with
    | some (_, xs) => atI xs i
    | none => match a with
      | .str z => if z.length ≤ sizeLine then (atI z.cps.toList i).map fun c => .str ⟨#[c]⟩ else none
      | .tup xs => (atI xs i).bind fun x => if shr x = true then some x else none
      | .lst true xs => (atI xs i).bind fun x => if shr x = true then some x else none
      | _ => none
  | _ => none
theorem atI_rpS {S : Gs} {H Hs : Hp} {xs : List D} {vs : List V} {G : List Addr} {i : Int} {x : D} (r : RpL S H Hs xs vs G) (e : ((atI xs i).bind fun x => if shr x = true then some x else none) = some d) : ∃ v, atI vs i = some v ∧ Rp S H Hs d v [] := by
  obtain ⟨x, e1, e2⟩ := Option.bind_eq_some_iff.mp e
  split at e2
  · rename_i hs
    cases e2
    unfold atI at e1 ⊢
    obtain ⟨j, h1, h2⟩ := Option.bind_eq_some_iff.mp e1
    obtain ⟨v, G', h3, h4, _⟩ := r.get h2
    rw [h4.shr hs] at h4
    exact ⟨v, by rw [← r.length, h1]; exact h3, h4⟩
  · cases e2
theorem atI_rp {S : Gs} {H Hs : Hp} {xs : List D} {vs : List V} {i : Int} (r : RpL S H Hs xs vs []) (e : atI xs i = some d) : ∃ v, atI vs i = some v ∧ Rp S H Hs d v [] := by
  unfold atI at e ⊢
  obtain ⟨j, h1, h2⟩ := Option.bind_eq_some_iff.mp e
  obtain ⟨v, h3, h4⟩ := r.get0 h2
  exact ⟨v, by rw [← r.length, h1]; exact h3, h4⟩
theorem opIx_S {K : PySem.W.Frag} : OpS B (rr2 (rIx K)) opIx := by
  intro T ts ρ σ H F ps ds vs Q d h o e q
  unfold opIx at e
  split at e
  · obtain ⟨v1, v2, G1, G2, rfl, r1, r2⟩ := o.two h
    split at e
    · rename_i b xs e1
      obtain ⟨a, vs, rfl, ha, ra⟩ := seqOf_rp r1 e1
      obtain ⟨v, hv, rv⟩ := atI_rp ra e
      have fin := q v H F (h.drop.push rv)
      split at ha
      · exact .inl ⟨a, vs, _, v, rfl, r2.int, SqL.of ha, hv, fin⟩
      · exact .inr (.inl ⟨a, vs, _, v, rfl, r2.int, SqT.of ha, hv, fin⟩)
    · split at e
      · split at e
        · rename_i z _ hz
          cases ec : atI z.cps.toList _ with
          | none => rw [ec] at e; cases e
          | some c =>
            rw [ec] at e; cases e
            exact .inr (.inr ⟨z, _, c, r1.str, r2.int, hz, ec, q _ _ _ (h.drop.push (.str _))⟩)
        · cases e
      · obtain ⟨r1, _⟩ := r1
        cases r1 with
        | tup h1 rl =>
          obtain ⟨v, hv, rv⟩ := atI_rpS (x := d) rl e
          exact .inr (.inl ⟨_, _, _, v, rfl, r2.int, SqT.of (hid_some h1).2, hv, q v H F (h.drop.push rv)⟩)
      · obtain ⟨r1, _⟩ := r1
        cases r1 with
        | lstO h1 rl =>
          obtain ⟨v, hv, rv⟩ := atI_rpS (x := d) rl e
          exact .inl ⟨_, _, _, v, rfl, r2.int, SqL.of h1, hv, q v H F (h.drop.push rv)⟩
      · cases e
  · cases e
theorem OpS.or {r r' : List V → Hp → VK → Prop} {o : List D → Option D} (h : OpS B r o) : OpS B (fun xs H Q => r xs H Q ∨ r' xs H Q) o := fun hr ho e q => .inl (h hr ho e q)
def opList : List D → Option D
  | [a] => (seqOf a).map fun p => .lst true p.2
  | _ => none
def rListA (K : PySem.W.Frag) : List V → Hp → VK → Prop := fun xs H Q => ∃ p ys, xs = [.ref p] ∧ (SqL K H p ys ∨ SqT K H p ys) ∧ ∀ l, H l = none → Q (.ref l) (upd H l (.lst ys))
theorem opList_S {K : PySem.W.Frag} : OpS B (rListA K) opList := by
  intro T ts ρ σ H F ps ds vs Q d h o e q
  unfold opList at e
  split at e
  · obtain ⟨v1, G1, rfl, r1⟩ := o.one h
    obtain ⟨⟨b, xs⟩, e1, e2⟩ := Option.map_eq_some_iff.mp e
    cases e2
    obtain ⟨a, vs, rfl, ha, ra⟩ := seqOf_rp r1 e1
    exact ⟨a, vs, rfl, ifL ha, fun p hp => q _ _ _ (h.drop.newL ra hp (h.len_le ha))⟩
  · cases e
def opTuple : List D → Option D
  | [a] => (seqOf a).map fun p => .tup p.2
  | _ => none
def rTupA (K : PySem.W.Frag) : List V → Hp → VK → Prop := fun xs H Q => ∃ p ys, xs = [.ref p] ∧ ((SqL K H p ys ∧ ∀ l, H l = none → Q (.ref l) (upd H l (.tup ys))) ∨ (SqT K H p ys ∧ Q (.ref p) H))
theorem opTuple_S {K : PySem.W.Frag} : OpS B (rTupA K) opTuple := by
  intro T ts ρ σ H F ps ds vs Q d h o e q
  unfold opTuple at e
  split at e
  · obtain ⟨v1, G1, rfl, r1⟩ := o.one h
    obtain ⟨⟨b, xs⟩, e1, e2⟩ := Option.map_eq_some_iff.mp e
    cases e2
    cases b with
    | true =>
      obtain ⟨a, vs, rfl, ha, ra⟩ := seqOf_lst r1 e1
      exact ⟨a, vs, rfl, .inl ⟨SqL.of ha, fun p hp => q _ _ _ (h.drop.newT ra hp (h.hl _ _ (.inl ha)))⟩⟩
    | false =>
      obtain ⟨a, vs, rfl, ha, ra⟩ := seqOf_tp r1 e1
      exact ⟨a, vs, rfl, .inr ⟨SqT.of ha, q _ _ _ (h.drop.push (seqOf_tup r1 e1))⟩⟩
  · cases e
def opMax2 : List D → Option D
  | [.int i, .int j] => some (.int (if j > i then j else i))
  | _ => none
def opMin2 : List D → Option D
  | [.int i, .int j] => some (.int (if j < i then j else i))
  | _ => none
theorem opMax2_S : OpS B (fun xs H Q => ∃ i j, xs = [.int i, .int j] ∧ Q (.int (if j > i then j else i)) H) opMax2 := by
  intro T ts ρ σ H F ps ds vs Q d h o e q
  unfold opMax2 at e
  split at e
  · cases e
    obtain ⟨v1, v2, G1, G2, rfl, r1, r2⟩ := o.two h
    exact ⟨_, _, by rw [r1.int, r2.int], q _ _ _ (h.drop.push (.int _))⟩
  · cases e
theorem opMin2_S : OpS B (fun xs H Q => ∃ i j, xs = [.int i, .int j] ∧ Q (.int (if j < i then j else i)) H) opMin2 := by
  intro T ts ρ σ H F ps ds vs Q d h o e q
  unfold opMin2 at e
  split at e
  · cases e
    obtain ⟨v1, v2, G1, G2, rfl, r1, r2⟩ := o.two h
    exact ⟨_, _, by rw [r1.int, r2.int], q _ _ _ (h.drop.push (.int _))⟩
  · cases e
def opInt : List D → Option D
  | [.int i] => some (.int i)
  | [.bl b] => some (.int (if b = true then 1 else 0))
  | _ => none
theorem opInt_S : OpS B (fun xs H Q => (∃ i, xs = [.int i] ∧ Q (.int i) H) ∨ ∃ k, xs = [.bl k] ∧ Q (.int (if k then 1 else 0)) H) opInt := by
  intro T ts ρ σ H F ps ds vs Q d h o e q
  unfold opInt at e
  split at e
  · cases e
    obtain ⟨v1, G1, rfl, r1⟩ := o.one h
    exact .inl ⟨_, by rw [r1.int], q _ _ _ (h.drop.push (.int _))⟩
  · cases e
    obtain ⟨v1, G1, rfl, r1⟩ := o.one h
    exact .inr ⟨_, by rw [r1.bl], q _ _ _ (h.drop.push (.int _))⟩
  · cases e
def blsOf : List D → Option (List Bool)
  | [] => some []
  | .bl b :: xs => (blsOf xs).map (b :: ·)
  | _ => none
def intsOf : List D → Option (List Int)
  | [] => some []
  | .int b :: xs => (intsOf xs).map (b :: ·)
  | _ => none
theorem blsOf_rp {S : Gs} {H Hs : Hp} : ∀ {xs : List D} {vs : List V} {F : List Addr} {bs : List Bool}, RpL S H Hs xs vs F → blsOf xs = some bs → vs = bs.map V.bl
  | [], _, _, _, .nil, e => by cases e; rfl
  | .bl b :: xs, _, _, bs, .cons h r, e => by
    rw [blsOf] at e
    obtain ⟨cs, e1, e2⟩ := Option.map_eq_some_iff.mp e
    cases h; subst e2
    rw [blsOf_rp r e1]; rfl
theorem intsOf_rp {S : Gs} {H Hs : Hp} : ∀ {xs : List D} {vs : List V} {F : List Addr} {bs : List Int}, RpL S H Hs xs vs F → intsOf xs = some bs → vs = bs.map V.int
  | [], _, _, _, .nil, e => by cases e; rfl
  | .int b :: xs, _, _, bs, .cons h r, e => by
    rw [intsOf] at e
    obtain ⟨cs, e1, e2⟩ := Option.map_eq_some_iff.mp e
    cases h; subst e2
    rw [intsOf_rp r e1]; rfl
theorem ints_rpl {S : Gs} {H Hs : Hp} : ∀ ns : List Int, RpL S H Hs (ns.map .int) (ns.map V.int) []
  | [] => .nil
  | n :: ns => .cons0 (.int n) (ints_rpl ns)
theorem seqR_lst {v : V} {G : List Addr} {o : Bool} {xs : List D} (r : RpB B H F (.lst o xs) v G) : ∃ a vs G', v = .ref a ∧ H a = some (.lst vs) ∧ RpL B.S H (hid (B.M ++ F) H) xs vs G' := by
  obtain ⟨r, _⟩ := r
  cases r with
  | lstS h r => exact ⟨_, _, _, rfl, (hid_some h).2, r⟩
  | lstO h r => exact ⟨_, _, _, rfl, h, r⟩
def opAll : List D → Option D
  | [.lst _ xs] => (blsOf xs).map fun bs => .bl (bs.all id)
  | _ => none
theorem opAll_S {K : PySem.W.Frag} : OpS B (rAll K) opAll := by
  intro T ts ρ σ H F ps ds vs Q d h o e q
  unfold opAll at e
  split at e
  · obtain ⟨v1, G1, rfl, r1⟩ := o.one h
    obtain ⟨bs, e1, e2⟩ := Option.map_eq_some_iff.mp e
    cases e2
    obtain ⟨a, vs, G', rfl, ha, ra⟩ := seqR_lst r1
    exact ⟨a, bs, rfl, by rw [← blsOf_rp ra e1]; exact SqL.of ha, q _ _ _ (h.drop.push (.bl _))⟩
  · cases e
def maxI : List Int → Int
  | [] => 0
  | [x] => x
  | x :: y :: xs => max x (maxI (y :: xs))
theorem maxI_spec : ∀ {ns : List Int}, ns ≠ [] → maxI ns ∈ ns ∧ ∀ y ∈ ns, y ≤ maxI ns
  | [x], _ => ⟨by simp [maxI], by simp [maxI]⟩
  | x :: y :: xs, _ => by
    obtain ⟨h1, h2⟩ := maxI_spec (ns := y :: xs) (by simp)
    rw [maxI]
    refine ⟨?_, fun z hz => ?_⟩
    · by_cases hc : x ≤ maxI (y :: xs)
      · rw [Int.max_eq_right hc]; exact List.mem_cons_of_mem _ h1
      · rw [Int.max_eq_left (by omega)]; exact List.mem_cons_self
    · rcases List.mem_cons.mp hz with rfl | hz
      · exact Int.le_max_left _ _
      · exact Int.le_trans (h2 z hz) (Int.le_max_right _ _)
def opMaxL : List D → Option D
  | [.lst _ xs] => (intsOf xs).bind fun bs => if bs.isEmpty = true then none else some (.int (maxI bs))
  | _ => none
theorem opMaxL_S {K : PySem.W.Frag} : OpS B (rMax K) opMaxL := by
  intro T ts ρ σ H F ps ds vs Q d h o e q
  unfold opMaxL at e
  split at e
  · obtain ⟨v1, G1, rfl, r1⟩ := o.one h
    obtain ⟨bs, e1, e2⟩ := Option.bind_eq_some_iff.mp e
    split at e2
    · cases e2
    · rename_i hne
      cases e2
      have hne : bs ≠ [] := by intro z; subst z; simp at hne
      obtain ⟨a, vs, G', rfl, ha, ra⟩ := seqR_lst r1
      refine ⟨a, bs, rfl, by rw [← intsOf_rp ra e1]; exact SqL.of ha, List.length_pos_iff.mpr hne, fun m hm hle => ?_⟩
      obtain ⟨h1, h2⟩ := maxI_spec hne
      have : m = maxI bs := Int.le_antisymm (h2 m hm) (hle _ h1)
      exact q _ _ _ (h.drop.push (by rw [this]; exact .int _))
  · cases e
end
end Fw

namespace Fw
open PySem PySem.Spec PyProof.Rows L2
section
variable {X : Cx} {B : Bs} {T ts : Tm} {ρ : En} {σ : L2.St} {H : Hp} {F : List Addr} {ps : List Opd} {ds : List D} {vs : List V} {Q : VK} {d d1 d2 d3 : D} {e tg : Expr} {f : En → Out D} {pos p : Pos}
theorem R.nth {fr T2 : Tm} {d : D} {v : V} {n : Nat} (h : R B (T ++ fr ++ T2) ρ σ H F) (e : fr[n]? = some (d, v)) : ∃ G, RpB B H F d v G := by
  obtain ⟨fp, q⟩ := h.pt
  have hn : n < fr.length := (List.getElem?_eq_some_iff.mp e).1
  have := q.tm (T.length + n) d v (by
    rw [List.append_assoc, List.getElem?_append_right (Nat.le_add_right _ _), Nat.add_sub_cancel_left, List.getElem?_append_left hn]; exact e)
  exact ⟨_, this, q.sub _⟩
theorem itok_list {K : PySem.W.Frag} {a : Addr} {xs : List D} (hd : seqOf d = some (true, xs)) (hz : xs.length ≤ sizeLine) : ItOk B (Itl K a) xs [(d, .ref a)] := by
  refine ⟨hz, fun T T2 ρ σ H F r i => ?_⟩
  obtain ⟨G, rb⟩ := r.nth (n := 0) rfl
  obtain ⟨a', vs, e, ha, rl⟩ := seqOf_lst rb hd
  cases e
  refine ⟨fun hi => ⟨vs, SqL.of ha, by rw [← rl.length]; exact hi⟩, fun d ed => ?_⟩
  obtain ⟨v, hv, rv⟩ := rl.get0 ed
  refine ⟨⟨vs, v, SqL.of ha, hv⟩, fun x H' ⟨eH, hx⟩ => ?_⟩
  subst eH
  have ex := hx vs (SqL.of ha)
  rw [hv] at ex; cases ex
  exact ⟨F, r.push rv⟩
theorem itok_tup {K : PySem.W.Frag} {a : Addr} {xs : List D} (hd : seqOf d = some (false, xs)) (hz : xs.length ≤ sizeLine) : ItOk B (Itt K a) xs [(d, .ref a)] := by
  refine ⟨hz, fun T T2 ρ σ H F r i => ?_⟩
  obtain ⟨G, rb⟩ := r.nth (n := 0) rfl
  obtain ⟨a', vs, e, ha, rl⟩ := seqOf_tp rb hd
  cases e
  refine ⟨fun hi => ⟨vs, SqT.of ha, by rw [← rl.length]; exact hi⟩, fun d ed => ?_⟩
  obtain ⟨v, hv, rv⟩ := rl.get0 ed
  refine ⟨⟨vs, v, SqT.of ha, hv⟩, fun x H' ⟨eH, hx⟩ => ?_⟩
  subst eH
  have ex := hx vs (SqT.of ha)
  rw [hv] at ex; cases ex
  exact ⟨F, r.push rv⟩
theorem itok_range {lo : Int} {n : Nat} (hz : n ≤ sizeLine) : ItOk B (Itr lo n) ((List.range n).map fun i => .int (lo + (i : Nat))) [] := by
  refine ⟨by simpa using hz, fun T T2 ρ σ H F r i => ⟨fun hi => (show n ≤ i by simpa using hi), fun d ed => ?_⟩⟩
  rw [List.getElem?_map] at ed
  by_cases hi : i < n
  · rw [List.getElem?_range hi] at ed
    cases ed
    refine ⟨hi, fun x H' ⟨eH, ex⟩ => ?_⟩
    subst eH; subst ex
    exact ⟨F, r.push (.int _)⟩
  · rw [List.getElem?_eq_none (by simpa using hi)] at ed; cases ed
def iSeq (K : PySem.W.Frag) (tl : TE) : TI := fun σ H R => tl σ H fun x H1 => ∃ a, x = .ref a ∧ (((∃ xs, SqL K H1 a xs) ∧ R (Itl K a) H1) ∨ ((∃ xs, SqT K H1 a xs) ∧ R (Itt K a) H1))
theorem pi_seq {l : Expr} {tl : TE} (hl : PE X l tl) : PI X tg l (iSeq X.K tl) := ⟨fun pins s σ H Rr I h => thn (hl.run pins s σ H _ I h) fun v s1 z => by
  obtain ⟨x, H1, I1, r1, a, rfl, q⟩ := z
  cases r1
  have out : ∀ (fp : Addr), fp = s1.heap.objs.size → FpOk X pins H1 fp := by
    rintro _ rfl; exact I1.fpOk (Nat.le_refl _) (I1.hok.fresh (Nat.le_refl _))
  have mem1 : ∀ b, b ∈ [s1.heap.objs.size] → FpOk X pins H1 b := fun b hb => out b (List.mem_singleton.mp hb)
  rcases q with ⟨⟨xs, hx⟩, q⟩ | ⟨⟨xs, hx⟩, q⟩
  · obtain ⟨its, _, pl, _⟩ := I1.list hx
    exact wpAny_pyIter_list pl.isList ⟨_, _, _, _, H1, rfl, I1.kept (t' := s1.toks) (fun _ _ z => Heap.get?_push_of_some _ z), turn_list a _, ⟨_, Heap.get?_push_size _ rfl, rfl, rfl⟩, mem1, q⟩
  · obtain ⟨its, _, pl, _⟩ := I1.tuple hx
    exact wpAny_pyIter_tuple (items := its.toArray) pl ⟨_, _, _, _, H1, rfl, I1.kept (t' := s1.toks) (fun _ _ z => Heap.get?_push_of_some _ z), turn_tuple a _, ⟨_, Heap.get?_push_size _ rfl, rfl, rfl⟩, mem1, q⟩⟩
def itSeq (f : En → Out D) : En → Out (List D) := fun ρ => (f ρ).bind fun d ρ' => match seqOf d with
  | some p => .ok p.2 ρ'
  | none => .no
theorem top_rp {v : V} (r : R B (T ++ [(d, v)]) ρ σ H F) : ∃ G, RpB B H F d v G := by
  obtain ⟨fp, q⟩ := r.pt
  exact ⟨_, q.tm T.length d v (by simp), q.sub _⟩
theorem ei_seq (h : PE X e (cE B f)) : PI X tg e (cI B (itSeq f)) := (pi_seq h).imp fun σ H Rr ⟨T, ρ, F, r, q⟩ => by
  refine ⟨T, ρ, F, r, Out.wp_mono (Out.wp_bind q) (fun d ρ' q v H' F' r' => ?_) fun _ _ z => z⟩
  split at q
  · rename_i pr e1
    obtain ⟨b, xs⟩ := pr
    obtain ⟨G, rb⟩ := top_rp r'
    cases b with
    | true =>
      obtain ⟨a, vs, rfl, ha, rl⟩ := seqOf_lst rb e1
      exact ⟨a, rfl, .inl ⟨⟨vs, SqL.of ha⟩, q _ H' F' [(d, .ref a)] r' (itok_list e1 (by rw [rl.length]; exact r'.hl _ _ (.inl ha)))⟩⟩
    | false =>
      obtain ⟨a, vs, rfl, ha, rl⟩ := seqOf_tp rb e1
      exact ⟨a, rfl, .inr ⟨⟨vs, SqT.of ha⟩, q _ H' F' [(d, .ref a)] r' (itok_tup e1 (by rw [rl.length]; exact r'.hl _ _ (.inr ha)))⟩⟩
  · exact q.elim
def rgD (lo hi : Int) : List D := (List.range (hi - lo).toNat).map fun i => .int (lo + (i : Nat))
def rgOk (lo hi : Int) : Bool := decide (-(2 ^ 62) ≤ lo) && decide (lo < 2 ^ 62) && decide (-(2 ^ 62) ≤ hi) && decide (hi < 2 ^ 62) && decide ((hi - lo).toNat ≤ sizeLine)
def itRg (ps : List Opd) : En → Out (List D) := fun ρ => (evOps ps ρ).bind fun ds ρ' => match ds with
  | [.int j] => if rgOk 0 j = true then .ok (rgD 0 j) ρ' else .no
  | [.int i, .int j] => if rgOk i j = true then .ok (rgD i j) ρ' else .no
  | _ => .no
theorem rgOk_iff {lo hi : Int} (h : rgOk lo hi = true) : -(2 ^ 62) ≤ lo ∧ lo < 2 ^ 62 ∧ -(2 ^ 62) ≤ hi ∧ hi < 2 ^ 62 ∧ (hi - lo).toNat ≤ sizeLine := by
  unfold rgOk at h
  simp only [Bool.and_eq_true, decide_eq_true_eq] at h
  exact ⟨h.1.1.1.1, h.1.1.1.2, h.1.1.2, h.1.2, h.2⟩
variable {a b : Expr} {pa pb : Opd}
theorem ei_range1 (hg : Gl X "range") (hm : X.mg "range" = none) (ha : PE X a (tOpd B pa)) (h1 : starEach [a] X.env = [(false, eval a X.env)] := by rfl) : PI X tg (.Call (.Name "range" p) [a] [] pos) (cI B (itRg [pa])) :=
  (pi_range1 hg hm (pa_cons ha pa_nil h1) h1).imp fun σ H Rr ⟨T, ρ, F, r, q⟩ => by
    refine ops_run (ps := [pa]) r (Out.wp_mono (Out.wp_bind q) (fun ds ρ' q vs H' F' ts r' o => ?_) fun _ _ z => z)
    split at q
    · split at q
      · rename_i hk
        obtain ⟨v1, G1, rfl, r1⟩ := o.one r'
        obtain ⟨k1, k2, k3, k4, k5⟩ := rgOk_iff hk
        have e0 : ∀ j : Int, (j - 0).toNat = j.toNat := fun j => by rw [Int.sub_zero]
        refine ⟨_, by rw [r1.int], k3, k4, q _ H' F' [] (by rw [List.append_nil]; exact r'.drop) ?_⟩
        unfold rgD
        rw [e0] at k5 ⊢
        exact itok_range k5
      · exact q.elim
    · have := ops_len o; simp at this
    · exact q.elim
theorem rgD_rp {S : Gs} {Hs : Hp} (lo hi : Int) : RpL S H Hs (rgD lo hi) (rgV lo hi) [] := by
  unfold rgD rgV
  generalize List.range (hi - lo).toNat = l
  induction l with
  | nil => exact .nil
  | cons x l ih => exact .cons0 (.int _) ih
def opRgL1 : List D → Option D
  | [.int j] => if rgOk 0 j = true then some (.lst true (rgD 0 j)) else none
  | _ => none
def opRgT2 : List D → Option D
  | [.int i, .int j] => if rgOk i j = true then some (.tup (rgD i j)) else none
  | _ => none
theorem rgOk_rg {lo hi : Int} (h : rgOk lo hi = true) : RgOk lo hi := by
  obtain ⟨k1, k2, k3, k4, k5⟩ := rgOk_iff h
  exact ⟨k1, k2, k3, k4, k5⟩
theorem rgV_le {lo hi : Int} (h : rgOk lo hi = true) : (rgV lo hi).length ≤ sizeLine := by
  rw [rgV_length]; exact (rgOk_iff h).2.2.2.2
variable {p2 pos2 : Pos}
theorem opRgL1_S : OpS B (rr1 fun x H Q => ∃ n, x = .int n ∧ RgOk 0 n ∧ ∀ q, H q = none → Q (.ref q) (upd H q (.lst (rgV 0 n)))) opRgL1 := by
  intro T ts ρ σ H F ps ds vs Q d h o e q
  unfold opRgL1 at e
  split at e
  · split at e
    · rename_i hk
      cases e
      obtain ⟨v1, G1, rfl, r1⟩ := o.one h
      exact ⟨_, r1.int, rgOk_rg hk, fun p hp => q _ _ _ (h.drop.newL (rgD_rp _ _) hp (rgV_le hk))⟩
    · cases e
  · cases e
theorem opRgT2_S : OpS B (rr2 fun x y H Q => ∃ i j, x = .int i ∧ y = .int j ∧ RgOk i j ∧ ∀ q, H q = none → Q (.ref q) (upd H q (.tup (rgV i j)))) opRgT2 := by
  intro T ts ρ σ H F ps ds vs Q d h o e q
  unfold opRgT2 at e
  split at e
  · split at e
    · rename_i hk
      cases e
      obtain ⟨v1, v2, G1, G2, rfl, r1, r2⟩ := o.two h
      exact ⟨_, _, r1.int, r2.int, rgOk_rg hk, fun p hp => q _ _ _ (h.drop.newT (rgD_rp _ _) hp (rgV_le hk))⟩
    · cases e
  · cases e
theorem ev_listRg1 (hc : X.calm = true) (hg : Gl X "list") (hm : X.mg "list" = none) (hg2 : Gl X "range") (hm2 : X.mg "range" = none) (ha : PE X a (tOpd B pa)) (na : starEach [a] X.env = (false, eval a X.env) :: starEach [] X.env := by rfl)
    (nb : starEach [.Call (.Name "range" p2) [a] [] pos2] X.env = (false, eval (.Call (.Name "range" p2) [a] [] pos2) X.env) :: starEach [] X.env := by rfl) : PE X (.Call (.Name "list" p) [.Call (.Name "range" p2) [a] [] pos2] [] pos) (cE B (evOp [pa] opRgL1)) :=
  (pe_listRg hc hg hm (prg_1 hg2 hm2 ha na) nb).imp fun σ H Q h => op_run (ps := [pa]) opRgL1_S h
theorem ev_tupRg2 (hc : X.calm = true) (hg : Gl X "tuple") (hm : X.mg "tuple" = none) (hg2 : Gl X "range") (hm2 : X.mg "range" = none) (ha : PE X a (tOpd B pa)) (hb : PE X b (tOpd B pb)) (na : starEach [a, b] X.env = (false, eval a X.env) :: starEach [b] X.env := by rfl) (nc : starEach [b] X.env = (false, eval b X.env) :: starEach [] X.env := by rfl) (hp : (backTo pos2 (starEach [b] X.env)).any (·.1) = false := by rfl)
    (nb : starEach [.Call (.Name "range" p2) [a, b] [] pos2] X.env = (false, eval (.Call (.Name "range" p2) [a, b] [] pos2) X.env) :: starEach [] X.env := by rfl) : PE X (.Call (.Name "tuple" p) [.Call (.Name "range" p2) [a, b] [] pos2] [] pos) (cE B (evOp [pa, pb] opRgT2)) :=
  (pe_tupRg hc hg hm (prg_2 hg2 hm2 ha hb na nc hp) nb).imp fun σ H Q h => op_run (ps := [pa, pb]) opRgT2_S h
def enD : Nat → List D → List D
  | _, [] => []
  | n, x :: xs => .tup [.int (n : Nat), x] :: enD (n + 1) xs
theorem enD_get : ∀ (xs : List D) (n i : Nat) (d : D), (enD n xs)[i]? = some d → ∃ x, xs[i]? = some x ∧ d = .tup [.int ((n + i : Nat) : Int), x]
  | [], n, i, d, e => by simp [enD] at e
  | x :: xs, n, 0, d, e => by simp [enD] at e; exact ⟨x, rfl, by rw [← e]; rfl⟩
  | x :: xs, n, i + 1, d, e => by
    rw [enD, List.getElem?_cons_succ] at e
    obtain ⟨y, h1, h2⟩ := enD_get xs (n + 1) i d e
    exact ⟨y, by simpa using h1, by rw [h2, show n + 1 + i = n + (i + 1) by omega]⟩
theorem enD_len : ∀ (xs : List D) (n : Nat), (enD n xs).length = xs.length
  | [], _ => rfl
  | x :: xs, n => by rw [enD, List.length_cons, enD_len xs, List.length_cons]
theorem pair_push {x y : V} {dx dy : D} {p : Addr} (r : R B T ρ σ H F) (hp : H p = none) (r1 : Rp B.S H (hid (B.M ++ F) H) dx x []) (r2 : Rp B.S H (hid (B.M ++ F) H) dy y []) : R B (T ++ [(.tup [dx, dy], .ref p)]) ρ σ (upd H p (.tup [x, y])) F :=
  r.newT (.cons0 r1 (.cons0 r2 .nil)) hp (by show 2 ≤ sizeLine; decide)
theorem itok_enum {K : PySem.W.Frag} {a : Addr} {xs : List D} (hd : seqOf d = some (true, xs)) (hz : xs.length ≤ sizeLine) : ItOk B (Ite K a) (enD 0 xs) [(d, .ref a)] := by
  refine ⟨by rw [enD_len]; exact hz, fun T T2 ρ σ H F r i => ?_⟩
  obtain ⟨G, rb⟩ := r.nth (n := 0) rfl
  obtain ⟨a', vs, e, ha, rl⟩ := seqOf_lst rb hd
  cases e
  refine ⟨fun hi => ⟨vs, SqL.of ha, by rw [← rl.length]; rw [enD_len] at hi; exact hi⟩, fun d ed => ?_⟩
  obtain ⟨x, hx, rfl⟩ := enD_get _ _ _ _ ed
  obtain ⟨v, hv, rv⟩ := rl.get0 hx
  refine ⟨⟨vs, v, SqL.of ha, hv⟩, fun y H' ⟨t, z, ey, ht, eH, hz⟩ => ?_⟩
  subst ey; subst eH
  have ez := hz vs (SqL.of ha)
  rw [hv] at ez; cases ez
  rw [Nat.zero_add]
  exact ⟨F, pair_push r ht (.int _) rv⟩
theorem zip2D_get : ∀ (xs ys : List D) (i : Nat) (d : D), ((xs.zip ys).map fun p => D.tup [p.1, p.2])[i]? = some d → ∃ x y, xs[i]? = some x ∧ ys[i]? = some y ∧ d = .tup [x, y]
  | [], ys, i, d, e => by simp at e
  | x :: xs, [], i, d, e => by simp at e
  | x :: xs, y :: ys, 0, d, e => by simp at e; exact ⟨x, y, rfl, rfl, e.symm⟩
  | x :: xs, y :: ys, i + 1, d, e => by
    rw [List.zip_cons_cons, List.map_cons, List.getElem?_cons_succ] at e
    obtain ⟨x', y', h1, h2, h3⟩ := zip2D_get xs ys i d e
    exact ⟨x', y', by simpa using h1, by simpa using h2, h3⟩
def zipD (xs ys : List D) : List D := (xs.zip ys).map fun p => D.tup [p.1, p.2]
theorem zipD_len (xs ys : List D) : (zipD xs ys).length = min xs.length ys.length := by simp [zipD]
theorem itok_zip {K : PySem.W.Frag} {a b : Addr} {xs ys : List D} (hd : seqOf d1 = some (true, xs)) (hd2 : seqOf d2 = some (true, ys)) (hz : xs.length ≤ sizeLine) : ItOk B (Itz K a b) (zipD xs ys) [(d1, .ref a), (d2, .ref b)] := by
  refine ⟨by rw [zipD_len]; omega, fun T T2 ρ σ H F r i => ?_⟩
  obtain ⟨G, rb⟩ := r.nth (n := 0) rfl
  obtain ⟨G2, rb2⟩ := r.nth (n := 1) rfl
  obtain ⟨a', vs, e, ha, rl⟩ := seqOf_lst rb hd
  cases e
  obtain ⟨a', ws, e, hb, rl2⟩ := seqOf_lst rb2 hd2
  cases e
  refine ⟨fun hi => ⟨vs, ws, SqL.of ha, SqL.of hb, by rw [← rl.length, ← rl2.length]; rw [zipD_len] at hi; omega⟩, fun d ed => ?_⟩
  obtain ⟨x, y, hx, hy, rfl⟩ := zip2D_get _ _ _ _ ed
  obtain ⟨v, hv, rv⟩ := rl.get0 hx
  obtain ⟨w, hw, rw'⟩ := rl2.get0 hy
  refine ⟨⟨vs, ws, v, w, SqL.of ha, SqL.of hb, hv, hw⟩, fun z H' ⟨t, x', y', ez, ht, eH, hx', hy'⟩ => ?_⟩
  subst ez; subst eH
  have e1 := hx' vs (SqL.of ha)
  have e2 := hy' ws (SqL.of hb)
  rw [hv] at e1; cases e1
  rw [hw] at e2; cases e2
  exact ⟨F, pair_push r ht rv rw'⟩
theorem itok_zipT {K : PySem.W.Frag} {a b : Addr} {xs ys : List D} (hd : seqOf d1 = some (false, xs)) (hd2 : seqOf d2 = some (false, ys)) (hz : xs.length ≤ sizeLine) : ItOk B (RZ.ItzT K a b) (zipD xs ys) [(d1, .ref a), (d2, .ref b)] := by
  refine ⟨by rw [zipD_len]; omega, fun T T2 ρ σ H F r i => ?_⟩
  obtain ⟨G, rb⟩ := r.nth (n := 0) rfl
  obtain ⟨G2, rb2⟩ := r.nth (n := 1) rfl
  obtain ⟨a', vs, e, ha, rl⟩ := seqOf_tp rb hd
  cases e
  obtain ⟨a', ws, e, hb, rl2⟩ := seqOf_tp rb2 hd2
  cases e
  refine ⟨fun hi => ⟨vs, ws, SqT.of ha, SqT.of hb, by rw [← rl.length, ← rl2.length]; rw [zipD_len] at hi; omega⟩, fun d ed => ?_⟩
  obtain ⟨x, y, hx, hy, rfl⟩ := zip2D_get _ _ _ _ ed
  obtain ⟨v, hv, rv⟩ := rl.get0 hx
  obtain ⟨w, hw, rw'⟩ := rl2.get0 hy
  refine ⟨⟨vs, ws, v, w, SqT.of ha, SqT.of hb, hv, hw⟩, fun z H' ⟨t, x', y', ez, ht, eH, hx', hy'⟩ => ?_⟩
  subst ez; subst eH
  have e1 := hx' vs (SqT.of ha)
  have e2 := hy' ws (SqT.of hb)
  rw [hv] at e1; cases e1
  rw [hw] at e2; cases e2
  exact ⟨F, pair_push r ht rv rw'⟩
def itEnV (f : En → Out D) : En → Out (List D) := fun ρ => (f ρ).bind fun d ρ' => match seqOf d with
  | some (true, xs) => .ok (enD 0 xs) ρ'
  | _ => .no
def itZip (f g : En → Out D) : En → Out (List D) := fun ρ => (f ρ).bind fun d ρ1 => (g ρ1).bind fun e ρ2 => match seqOf d, seqOf e with
  | some (true, xs), some (true, ys) => .ok (zipD xs ys) ρ2
  | some (false, xs), some (false, ys) => .ok (zipD xs ys) ρ2
  | _, _ => .no
variable {elts : List Expr} {kk : Nat} {tpos : Pos} {g : En → Out D}
theorem ei_enumL (hg : Gl X "enumerate") (hm : X.mg "enumerate" = none) (ha : PE X a (cE B f)) (hs : starEach [a] X.env = [(false, eval a X.env)] := by rfl) : PI X (.Tuple elts kk tpos) (.Call (.Name "enumerate" p) [a] [] pos) (cI B (itEnV f)) :=
  (pi_enum hg hm (pa_cons ha pa_nil hs) hs).imp fun σ H Rr ⟨T, ρ, F, r, q⟩ => by
    refine ⟨T, ρ, F, r, Out.wp_mono (Out.wp_bind q) (fun d ρ' q v H' F' r' => ?_) fun _ _ z => z⟩
    split at q
    · rename_i xs e1
      obtain ⟨G, rb⟩ := top_rp r'
      obtain ⟨a, vs, rfl, ha, rl⟩ := seqOf_lst rb e1
      exact ⟨a, vs, rfl, SqL.of ha, q _ H' F' [(d, .ref a)] r' (itok_enum e1 (by rw [rl.length]; exact r'.hl _ _ (.inl ha)))⟩
    · exact q.elim
theorem ei_zip (hg : Gl X "zip") (hm : X.mg "zip" = none) (ha : PE X a (cE B f)) (hb : PE X b (cE B g)) (h1 : starEach [a, b] X.env = (false, eval a X.env) :: starEach [b] X.env := by rfl) (h2 : starEach [b] X.env = (false, eval b X.env) :: starEach [] X.env := by rfl) (hp : (backTo pos (starEach [b] X.env)).any (·.1) = false := by rfl) :
    PI X (.Tuple elts kk tpos) (.Call (.Name "zip" p) [a, b] [] pos) (cI B (itZip f g)) :=
  (RZ.pi_zipA hg hm (pa_cons ha (pa_cons hb pa_nil h2) h1) h1 hp).imp fun σ H Rr ⟨T, ρ, F, r, q⟩ => by
    refine ⟨T, ρ, F, r, Out.wp_mono (Out.wp_bind q) (fun d ρ' q v H' F' r' => ?_) fun _ _ z => z⟩
    refine ⟨_, ρ', F', r', Out.wp_mono (Out.wp_bind q) (fun d2 ρ2 q v2 H2 F2 r2 => ?_) fun x ρ2 z cls dd H F xr r => z cls dd H F xr r.drop⟩
    have rr : R B (T ++ [(d, v), (d2, v2)] ++ []) ρ2 σ H2 F2 := by simpa using r2
    obtain ⟨G, rb⟩ := rr.nth (n := 0) rfl
    obtain ⟨G2, rb2⟩ := rr.nth (n := 1) rfl
    rw [List.append_nil] at rr
    split at q
    · rename_i xs ys e1 e2
      obtain ⟨a, vs, rfl, ha, rl⟩ := seqOf_lst rb e1
      obtain ⟨b, ws, rfl, hb, rl2⟩ := seqOf_lst rb2 e2
      exact ⟨a, b, vs, ws, rfl, .inl ⟨SqL.of ha, SqL.of hb, q _ H2 F2 [(d, .ref a), (d2, .ref b)] rr (itok_zip e1 e2 (by rw [rl.length]; exact r2.hl _ _ (.inl ha)))⟩⟩
    · rename_i xs ys e1 e2
      obtain ⟨a, vs, rfl, ha, rl⟩ := seqOf_tp rb e1
      obtain ⟨b, ws, rfl, hb, rl2⟩ := seqOf_tp rb2 e2
      exact ⟨a, b, vs, ws, rfl, .inr ⟨SqT.of ha, SqT.of hb, q _ H2 F2 [(d, .ref a), (d2, .ref b)] rr (itok_zipT e1 e2 (by rw [rl.length]; exact r2.hl _ _ (.inr ha)))⟩⟩
    · exact q.elim
def cutD (xs : List D) (lo hi : Option Int) : List D := (xs.drop (HT.sIx xs.length 0 lo)).take (HT.sIx xs.length xs.length hi - HT.sIx xs.length 0 lo)
theorem cut_rp {S : Gs} {Hs : Hp} {xs : List D} {vs : List V} (h : RpL S H Hs xs vs []) (lo hi : Option Int) : RpL S H Hs (cutD xs lo hi) (cutV vs lo hi) [] := by
  have hl := h.length
  refine RpL.of ?_ fun i d v e1 e2 => ?_
  · unfold cutD cutV
    simp [hl]
  · unfold cutD at e1
    unfold cutV at e2
    rw [← hl] at e2
    rw [List.getElem?_take] at e1 e2
    split at e1
    · rw [List.getElem?_drop] at e1 e2
      rename_i hi'
      rw [if_pos hi'] at e2
      obtain ⟨v', h1, h2⟩ := h.get0 e1
      rw [e2] at h1; cases h1; exact h2
    · cases e1
def prD : Option (En → Out D) → List Opd
  | none => []
  | some f => [.val f]
def evSl (pa : Opd) (lo hi : Option (En → Out D)) : En → Out D := fun ρ => (evOps (pa :: (prD lo ++ prD hi)) ρ).bind fun ds ρ' => match ds with
  | d :: is => match seqOf d, intsOf is with
    | some (b, xs), some js => match lo, hi, js with
      | none, none, [] => .ok (if b = true then .lst true (cutD xs none none) else .tup (cutD xs none none)) ρ'
      | some _, none, [i] => .ok (if b = true then .lst true (cutD xs (some i) none) else .tup (cutD xs (some i) none)) ρ'
      | none, some _, [j] => .ok (if b = true then .lst true (cutD xs none (some j)) else .tup (cutD xs none (some j))) ρ'
      | some _, some _, [i, j] => .ok (if b = true then .lst true (cutD xs (some i) (some j)) else .tup (cutD xs (some i) (some j))) ρ'
      | _, _, _ => .no
    | _, _ => .no
  | [] => .no
theorem SlR.any : SlR X (fun x lo hi H Q => rSlL X.K x lo hi H Q ∨ rSlA X.K x lo hi H Q) := sl_list.or sl_tupA
theorem sl_fin {v : V} {G : List Addr} {b : Bool} {xs : List D} {lo hi : Option Int} {K : PySem.W.Frag} (r : R B (T ++ ts) ρ σ H F) (rb : RpB B H F d v G) (e : seqOf d = some (b, xs))
    (q : ∀ v H' F', R B (T ++ [(if b = true then .lst true (cutD xs lo hi) else .tup (cutD xs lo hi), v)]) ρ σ H' F' → Q v H') : rSlL K v lo hi H Q ∨ rSlA K v lo hi H Q := by
  cases b with
  | true =>
    obtain ⟨a, vs, rfl, ha, rl⟩ := seqOf_lst rb e
    exact .inl ⟨a, vs, rfl, SqL.of ha, fun p hp => q _ _ _ (r.drop.newL (cut_rp rl lo hi) hp (Nat.le_trans (cutV_length _ _ _) (r.hl _ _ (.inl ha))))⟩
  | false =>
    obtain ⟨a, vs, rfl, ha, rl⟩ := seqOf_tp rb e
    refine .inr ⟨a, vs, rfl, SqT.of ha, fun hw => ?_, fun _ p hp => q _ _ _ (r.drop.newT (cut_rp rl lo hi) hp (Nat.le_trans (cutV_length _ _ _) (r.hl _ _ (.inr ha))))⟩
    have : cutD xs lo hi = xs := by
      unfold cutD
      rw [rl.length, hw.1, hw.2, List.drop_zero, Nat.sub_zero, ← rl.length, List.take_length]
    rw [this] at q
    exact q _ _ _ (r.drop.push (seqOf_tup rb e))
variable {lo hi : Expr} {fl fh : En → Out D}
theorem ev_sl1 (ha : PE X a (tOpd B pa)) (hl : PE X lo (cE B fl)) : PE X (.Subscript a (.Slice (some lo) none none p2) pos) (cE B (evSl pa (some fl) none)) := (pe_slice SlR.any ha (po_some hl) po_none).imp fun σ H Q ⟨T, ρ, F, r, q⟩ => by
  refine ops_run (ps := [pa, .val fl]) (K := fun vs H => match vs with | [x, y] => ∃ i, y = .int i ∧ (rSlL X.K x (some i) none H Q ∨ rSlA X.K x (some i) none H Q) | _ => False) r (Out.wp_mono (Out.wp_bind q) (fun ds ρ' q vs H' F' ts r' o => ?_) fun _ _ z => z)
  have hl := ops_len o
  match ds, hl with
  | [d, d2], _ =>
    obtain ⟨v1, v2, G1, G2, rfl, r1, r2⟩ := o.two r'
    dsimp only at q ⊢
    split at q
    · rename_i b xs js e1 e2
      cases d2 with
      | int i => cases e2; exact ⟨i, r2.int, sl_fin r' r1 e1 q⟩
      | _ => cases e2
    · exact q.elim
theorem ev_sl2 (ha : PE X a (tOpd B pa)) (hh : PE X hi (cE B fh)) : PE X (.Subscript a (.Slice none (some hi) none p2) pos) (cE B (evSl pa none (some fh))) := (pe_slice SlR.any ha po_none (po_some hh)).imp fun σ H Q ⟨T, ρ, F, r, q⟩ => by
  refine ops_run (ps := [pa, .val fh]) (K := fun vs H => match vs with | [x, y] => ∃ i, y = .int i ∧ (rSlL X.K x none (some i) H Q ∨ rSlA X.K x none (some i) H Q) | _ => False) r (Out.wp_mono (Out.wp_bind q) (fun ds ρ' q vs H' F' ts r' o => ?_) fun _ _ z => z)
  have hl := ops_len o
  match ds, hl with
  | [d, d2], _ =>
    obtain ⟨v1, v2, G1, G2, rfl, r1, r2⟩ := o.two r'
    dsimp only at q ⊢
    split at q
    · rename_i b xs js e1 e2
      cases d2 with
      | int i => cases e2; exact ⟨i, r2.int, sl_fin r' r1 e1 q⟩
      | _ => cases e2
    · exact q.elim
theorem OpV.three (h : R B (T ++ ts) ρ σ H F) (o : OpV B ρ σ ps ts [d1, d2, d3] vs) : ∃ v1 v2 v3 G1 G2 G3, vs = [v1, v2, v3] ∧ RpB B H F d1 v1 G1 ∧ RpB B H F d2 v2 G2 ∧ RpB B H F d3 v3 G3 := by
  obtain ⟨v1, G1, e1, r1⟩ := o.at h 0 d1 rfl
  obtain ⟨v2, G2, e2, r2⟩ := o.at h 1 d2 rfl
  obtain ⟨v3, G3, e3, r3⟩ := o.at h 2 d3 rfl
  have hl := o.len
  match vs, hl, e1, e2, e3 with
  | [x, y, z], _, e1, e2, e3 => cases e1; cases e2; cases e3; exact ⟨_, _, _, G1, G2, G3, rfl, r1, r2, r3⟩
end
end Fw

namespace Fw
open PySem PySem.Spec PyProof.Rows L2
section
variable {X : Cx} {B : Bs} {T ts : Tm} {ρ : En} {σ : L2.St} {H : Hp} {F : List Addr} {ps : List Opd} {ds : List D} {vs : List V} {Q : VK} {d d1 d2 d3 : D} {e a b tg : Expr} {f fe fk : En → Out D} {pos p pos' : Pos}
theorem R.mutL {i : Nat} {a : Addr} (h : R B (T ++ ts) ρ σ H F) (e : ρ.vs[i]? = some (.ow (.lst true ds))) (ev : B.loc σ i = some (some (.ref a))) :
    ∃ vs, H a = some (.lst vs) ∧ vs.length = ds.length ∧ ∀ ds' vs', (∀ {Hs : Hp} {F G : List Addr}, (∀ b o, Hs b = some o → H b = some o) → RpL B.S H Hs ds vs F → RpL B.S H Hs (ts.map (·.1)) (ts.map (·.2)) G → F.Nodup → G.Nodup → (∀ x, x ∈ F → x ∉ G) → ∃ F', RpL B.S H Hs ds' vs' F' ∧ (∀ x ∈ F', x ∈ F ∨ x ∈ G) ∧ F'.Nodup) →
      vs'.length ≤ sizeLine → R B T { ρ with vs := ρ.vs.set i (.ow (.lst true ds')) } σ (upd H a (.lst vs')) F := by
  obtain ⟨fp, p⟩ := h.pt
  obtain ⟨v, ev', r⟩ := (show RpV _ _ _ (.ow (.lst true ds)) _ _ from p.sl i _ e)
  rw [ev] at ev'; cases ev'
  generalize hG : fp (.inr i) = G0 at r
  cases r with
  | @lstO _ vs _ F0 ha rl =>
    refine ⟨vs, ha, rl.length.symm, fun ds' vs' step hz => h.mut e ev (d' := .lst true ds') (o := .lst vs') (fun {Hs G Gt} hs r rt nd ndt cr => ?_) (by intro ws e; rcases e with e | e <;> cases e; exact hz)⟩
    cases r with
    | @lstO _ vs2 _ F1 ha2 rl2 =>
      rw [ha] at ha2; cases ha2
      obtain ⟨na, nd1⟩ := List.nodup_cons.mp nd
      obtain ⟨F', r', sub, nd'⟩ := step hs rl2 rt nd1 ndt (fun x hx => cr x (List.mem_cons_of_mem _ hx))
      have haG : a ∉ Gt := cr a List.mem_cons_self
      have naF : a ∉ F' := fun z => (sub a z).elim na haG
      refine ⟨a :: F', fun x hx => ?_, List.nodup_cons.mpr ⟨naF, nd'⟩, List.mem_cons_self, fun {H'} ha' k => .lstO ha' (r'.mono (fun x hx o q => k x o (by rintro rfl; exact naF hx) q) fun _ _ z => z)⟩
      rcases List.mem_cons.mp hx with rfl | hx
      · exact .inl List.mem_cons_self
      · exact (sub x hx).imp (fun z => List.mem_cons_of_mem _ z) id
theorem R.mutD {i : Nat} {a : Addr} {ks : List Key} (h : R B (T ++ ts) ρ σ H F) (e : ρ.vs[i]? = some (.ow (.dk true ks ds))) (ev : B.loc σ i = some (some (.ref a))) :
    ∃ kvs, H a = some (.dK kvs) ∧ kvs.map (·.1) = ks ∧ ds.length = kvs.length ∧ ∀ ds' (kvs' : List (Key × V)), (∀ {Hs : Hp} {F G : List Addr}, (∀ b o, Hs b = some o → H b = some o) → RpL B.S H Hs ds (kvs.map (·.2)) F → RpL B.S H Hs (ts.map (·.1)) (ts.map (·.2)) G → F.Nodup → G.Nodup → (∀ x, x ∈ F → x ∉ G) → ∃ F', RpL B.S H Hs ds' (kvs'.map (·.2)) F' ∧ (∀ x ∈ F', x ∈ F ∨ x ∈ G) ∧ F'.Nodup) →
      R B T { ρ with vs := ρ.vs.set i (.ow (.dk true (kvs'.map (·.1)) ds')) } σ (upd H a (.dK kvs')) F := by
  obtain ⟨fp, p⟩ := h.pt
  obtain ⟨v, ev', r⟩ := (show RpV _ _ _ (.ow (.dk true ks ds)) _ _ from p.sl i _ e)
  rw [ev] at ev'; cases ev'
  generalize hG : fp (.inr i) = G0 at r
  cases r with
  | @dkO _ kvs _ F0 ha rl =>
    refine ⟨kvs, ha, rfl, by rw [rl.length, List.length_map], fun ds' kvs' step => h.mut e ev (d' := .dk true (kvs'.map (·.1)) ds') (o := .dK kvs') (fun {Hs G Gt} hs r rt nd ndt cr => ?_) (by intro ws e; rcases e with e | e <;> cases e)⟩
    generalize hk : kvs.map (·.1) = ks' at r
    cases r with
    | @dkO _ kvs2 _ F1 ha2 rl2 =>
      rw [ha] at ha2; cases ha2
      obtain ⟨na, nd1⟩ := List.nodup_cons.mp nd
      obtain ⟨F', r', sub, nd'⟩ := step hs rl2 rt nd1 ndt (fun x hx => cr x (List.mem_cons_of_mem _ hx))
      have haG : a ∉ Gt := cr a List.mem_cons_self
      have naF : a ∉ F' := fun z => (sub a z).elim na haG
      refine ⟨a :: F', fun x hx => ?_, List.nodup_cons.mpr ⟨naF, nd'⟩, List.mem_cons_self, fun {H'} ha' k => .dkO ha' (r'.mono (fun x hx o q => k x o (by rintro rfl; exact naF hx) q) fun _ _ z => z)⟩
      rcases List.mem_cons.mp hx with rfl | hx
      · exact .inl List.mem_cons_self
      · exact (sub x hx).imp (fun z => List.mem_cons_of_mem _ z) id
theorem one_rpl {S : Gs} {H Hs : Hp} {d : D} {v : V} {G : List Addr} (r : RpL S H Hs [d] [v] G) : Rp S H Hs d v G := by
  cases r with
  | cons h r => cases r; rw [List.append_nil]; exact h
theorem R.mutL' {i : Nat} {a : Addr} {ds' : List D} {vs vs' : List V} {v : V} (h : R B (T ++ [(d, v)]) ρ σ H F) (e : ρ.vs[i]? = some (.ow (.lst true ds))) (ev : B.loc σ i = some (some (.ref a))) (ha : H a = some (.lst vs)) (hz : vs'.length ≤ sizeLine)
    (step : ∀ {Hs : Hp} {F G : List Addr}, (∀ b o, Hs b = some o → H b = some o) → RpL B.S H Hs ds vs F → Rp B.S H Hs d v G → F.Nodup → G.Nodup → (∀ x, x ∈ F → x ∉ G) → ∃ F', RpL B.S H Hs ds' vs' F' ∧ (∀ x ∈ F', x ∈ F ∨ x ∈ G) ∧ F'.Nodup) :
    R B T { ρ with vs := ρ.vs.set i (.ow (.lst true ds')) } σ (upd H a (.lst vs')) F := by
  obtain ⟨vs2, ha2, hl, k⟩ := h.mutL e ev
  rw [ha] at ha2; cases ha2
  exact k ds' vs' (fun {Hs F G} hs r1 r2 n1 n2 dj => step hs r1 (one_rpl r2) n1 n2 dj) hz
theorem RpL.set {S : Gs} {H Hs : Hp} {d : D} {v : V} {G : List Addr} (h : Rp S H Hs d v G) (ndG : G.Nodup) : ∀ {ds : List D} {vs : List V} {F : List Addr} (j : Nat), RpL S H Hs ds vs F → F.Nodup → (∀ x, x ∈ F → x ∉ G) →
    ∃ F', RpL S H Hs (ds.set j d) (vs.set j v) F' ∧ (∀ x ∈ F', x ∈ F ∨ x ∈ G) ∧ F'.Nodup
  | _, _, _, _, .nil, nd, _ => ⟨[], .nil, fun _ z => (nomatch z), nd⟩
  | _, _, _, 0, .cons (F := F1) (G := F2) q r, nd, dj => by
    obtain ⟨n1, n2, n3⟩ := List.nodup_append.mp nd
    exact ⟨G ++ F2, .cons h r, fun x hx => (List.mem_append.mp hx).elim .inr fun z => .inl (List.mem_append_right _ z),
      List.nodup_append.mpr ⟨ndG, n2, fun x hx y hy e => dj y (List.mem_append_right _ hy) (e ▸ hx)⟩⟩
  | _, _, _, j + 1, .cons (F := F1) (G := F2) q r, nd, dj => by
    obtain ⟨n1, n2, n3⟩ := List.nodup_append.mp nd
    obtain ⟨F', r', sub, nd'⟩ := RpL.set h ndG j r n2 fun x hx => dj x (List.mem_append_right _ hx)
    refine ⟨F1 ++ F', .cons q r', fun x hx => ?_, List.nodup_append.mpr ⟨n1, nd', fun x hx y hy e => ?_⟩⟩
    · rcases List.mem_append.mp hx with z | z
      · exact .inl (List.mem_append_left _ z)
      · exact (sub x z).imp (fun z => List.mem_append_right _ z) id
    · subst e
      rcases sub x hy with z | z
      · exact n3 x hx x z rfl
      · exact dj x (List.mem_append_left _ hx) z
theorem tyv_lst {K : PySem.W.Frag} {a : Addr} {vs : List V} (h : H a = some (.lst vs)) : tyV K "list" (.ref a) H := .inl ⟨rfl, _, .inl (.inl h)⟩
theorem own_lst {i : Nat} (r : R B T ρ σ H F) (e : ρ.vs[i]? = some (.ow (.lst true ds))) : ∃ a vs, B.loc σ i = some (some (.ref a)) ∧ H a = some (.lst vs) := by
  obtain ⟨fp, p⟩ := r.pt
  obtain ⟨v', ev', r⟩ := (show RpV _ _ _ (.ow (.lst true ds)) _ _ from p.sl i _ e)
  generalize fp (.inr i) = G0 at r
  cases r with
  | lstO h r => exact ⟨_, _, ev', h⟩
def Mo1 (r : V → List V → Hp → VK → Prop) (mo : List D → D → Option (List D)) : Prop := ∀ {S : Gs} {H : Hp} {Hs0 : Hp} {a : Addr} {ds ds' : List D} {vs : List V} {d : D} {v : V} {G0 : List Addr} {Q : VK},
  (∀ b o, Hs0 b = some o → H b = some o) → Rp S H Hs0 d v G0 → H a = some (.lst vs) → ds.length = vs.length → mo ds d = some ds' → ∃ vs', (Q .non (upd H a (.lst vs')) → r (.ref a) [v] H Q) ∧ vs'.length ≤ sizeLine ∧
    ∀ {Hs : Hp} {F G : List Addr}, (∀ b o, Hs b = some o → H b = some o) → RpL S H Hs ds vs F → Rp S H Hs d v G → F.Nodup → G.Nodup → (∀ x, x ∈ F → x ∉ G) → ∃ F', RpL S H Hs ds' vs' F' ∧ (∀ x ∈ F', x ∈ F ∨ x ∈ G) ∧ F'.Nodup
def sMe1 (mo : List D → D → Option (List D)) (i : Nat) (fe : En → Out D) : En → Out Fl := fun ρ => match ρ.vs[i]? with
  | some (.ow (.lst true _)) => (fe ρ).bind fun d ρ' => match ρ'.vs[i]? with
    | some (.ow (.lst true ds)) => match mo ds d with
      | some ds' => .ok .nx { ρ' with vs := ρ'.vs.set i (.ow (.lst true ds')) }
      | none => .no
    | _ => .no
  | _ => .no
theorem hid_sub {M : List Addr} : ∀ b o, hid M H b = some o → H b = some o := fun b o h => (hid_some h).2
theorem es_me1 {i : Nat} {r : V → List V → Hp → VK → Prop} {mo : List D → D → Option (List D)} (hr : Mo1 r mo) (h : PS X (.Expr e pos) (tDrop (tBM X.K "list" r (tL B i) (tCons (cE B fe) tNil)))) : PS X (.Expr e pos) (cS B (sMe1 mo i fe)) := h.imp fun D' σ H ⟨T, ρ, F, rr, q⟩ => by
  unfold sMe1 at q
  split at q
  · rename_i d0 e0
    obtain ⟨a, vs0, ev, ha0⟩ := own_lst rr e0
    refine ⟨_, ev, rr.at, tyv_lst ha0, T, ρ, F, rr, Out.wp_mono (Out.wp_bind q) (fun d ρ' q v H' F' r' => ?_) fun _ _ z => exS z⟩
    show r (.ref a) [v] H' fun _ H1 => D'.nx σ H1
    split at q
    · rename_i ds e1
      split at q
      · rename_i ds' e2
        obtain ⟨vs, ha, hl, step⟩ := r'.mutL (ts := [(d, v)]) e1 ev
        obtain ⟨G, rb, _⟩ := top_rp r'
        obtain ⟨vs', h1, h2, h3⟩ := hr (Q := fun _ H1 => D'.nx σ H1) hid_sub rb ha hl.symm e2
        have := r'.md
        obtain ⟨fp, p⟩ := r'.pt
        exact h1 (q σ _ F' (R.mutL' r' e1 ev ha h2 fun {Hs F G} hs x y => h3 hs x y))
      · exact q.elim
    · exact q.elim
  · exact q.elim
def moApp (ds : List D) (d : D) : Option (List D) := if ds.length < sizeLine then some (ds ++ [d]) else none
theorem moApp_S : Mo1 rAppend moApp := by
  intro S H Hs0 a ds ds' vs d v G0 Q _ rd ha hl e
  unfold moApp at e
  split at e
  · rename_i hz
    cases e
    refine ⟨vs ++ [v], fun q => ⟨a, vs, v, rfl, rfl, ha, by rw [← hl]; exact hz, q⟩, by simp; omega, fun {Hs F G} _ r1 r2 n1 n2 dj => ⟨F ++ (G ++ []), r1.append (.cons r2 .nil), fun x hx => ?_, ?_⟩⟩
    · rw [List.append_nil] at hx; exact List.mem_append.mp hx
    · rw [List.append_nil]
      exact List.nodup_append.mpr ⟨n1, n2, fun x hx y hy z => dj x hx (z ▸ hy)⟩
  · cases e
def rExtT : V → List V → Hp → VK → Prop := fun x vs H Q => ∃ l b xs zs, x = .ref l ∧ vs = [.ref b] ∧ H l = some (.lst xs) ∧ H b = some (.tup zs) ∧ xs.length + zs.length ≤ sizeLine ∧ Q .non (upd H l (.lst (xs ++ zs)))
theorem mt_extT {X : Cx} : MtR X "list.extend" rExtT := by
  intro pins s σ H x vs v us Q I rx rv ⟨l, b, xs, zs, ex, ev, hH, hB, hz, q⟩
  subst ex
  subst ev
  cases rx
  obtain ⟨u, rfl, ru⟩ := rv.one
  cases ru
  obtain ⟨z, its, n, r, hl, e⟩ := I.lstM hH
  obtain ⟨z2, its2, r2, o2, ho, hc, n2, hd⟩ := I.hok b _ hB
  have ez : its.toArray.size + its2.toArray.size ≤ sizeLine := by rw [List.size_toArray, List.size_toArray, ← hl, ← r2.length]; exact hz
  have el : its.toArray.size ≤ sizeLine := by omega
  refine wpAny_call_entry PySem.F.slot_list_extend ⟨_, e, rfl⟩ PySem.F.entry_list_extend ?_ (PySem.F.args_list_extend_2 _ _)
  show wpAny _ _ (Builtin.List.listExtendWith (.ref l) (.ref b) .none) _ _ _
  unfold Builtin.List.listExtendWith
  refine wpAny_bind (wpAny_typeOf ⟨o2, ho, hc⟩ ?_)
  have isT : (Builtin.List.listSameRef (.ref l) (.ref b) || Value.type "tuple" == Value.type "list" || Value.type "tuple" == Value.type "tuple") = true := by simp
  simp only [isT, if_true]
  refine wpAny_bind ?_
  unfold Builtin.List.listItems
  refine wpAny_bind (wpAny_seqItems ho hd (wpAny_pure (wpAny_bind (wpAny_bind (wpAny_seqItems e rfl (wpAny_pure ?_))))))
  have long : (!its.toArray.isEmpty && Builtin.List.listTooLong (its.toArray.size + its2.toArray.size)) = false := by rw [notLongL ez, Bool.and_false]
  simp only [long]
  show wpAny _ _ (updateSeq l (· ++ its2.toArray) >>= fun _ => ret .none) _ _ s
  refine wpAny_bind (wpAny_updateSeq e rfl (hz := el) (_hz' := by rw [Array.size_append]; omega) ?_)
  refine wpAny_pure ⟨_, rfl, .non, _, I.lset (its' := its ++ its2) hH e (by simp) (r.append r2) ?_, rfl, q⟩
  rw [List.length_append]
  exact hz
def rExtA : V → List V → Hp → VK → Prop := fun x vs H Q => rExtend x vs H Q ∨ rExtT x vs H Q
theorem mt_extA {X : Cx} : MtR X "list.extend" rExtA := by
  intro pins s σ H x vs v us Q I rx rv h
  rcases h with h | h
  · exact mt_extend pins s σ H x vs v us Q I rx rv h
  · exact mt_extT pins s σ H x vs v us Q I rx rv h
def moExt (ds : List D) (d : D) : Option (List D) := match d with
  | .lst _ es => if ds.length + es.length ≤ sizeLine then some (ds ++ es) else none
  | .tup es => if ds.length + es.length ≤ sizeLine then some (ds ++ es) else none
  | _ => none
theorem moExt_S : Mo1 rExtA moExt := by
  intro S H Hs0 a ds ds' vs d v G0 Q hs0 rd ha hl e
  unfold moExt at e
  split at e
  · rename_i o es
    split at e
    · rename_i hz
      cases e
      have key : ∀ {Hs : Hp} {G : List Addr}, (∀ b o, Hs b = some o → H b = some o) → Rp S H Hs (.lst o es) v G → ∃ b zs G', v = .ref b ∧ H b = some (.lst zs) ∧ RpL S H Hs es zs G' ∧ (∀ x ∈ G', x ∈ G) ∧ (G.Nodup → G'.Nodup) := by
        intro Hs G hs r
        cases r with
        | lstS h r => exact ⟨_, _, _, rfl, hs _ _ h, r, fun _ z => z, fun z => z⟩
        | lstO h r => exact ⟨_, _, _, rfl, h, r, fun _ z => List.mem_cons_of_mem _ z, fun z => (List.nodup_cons.mp z).2⟩
      obtain ⟨b, zs, G', rfl, hb, rz, _, _⟩ := key hs0 rd
      refine ⟨vs ++ zs, fun q => .inl ⟨a, b, vs, zs, rfl, rfl, ha, hb, by rw [← hl, ← rz.length]; exact hz, q⟩, by rw [List.length_append, ← hl, ← rz.length]; exact hz, fun {Hs F G} hs r1 r2 n1 n2 dj => ?_⟩
      obtain ⟨b', zs', G', eb, hb', rz', sub, nd⟩ := key hs r2
      cases eb
      rw [hb] at hb'; cases hb'
      exact ⟨F ++ G', r1.append rz', fun x hx => (List.mem_append.mp hx).imp id (sub x), List.nodup_append.mpr ⟨n1, nd n2, fun x hx y hy z => dj x hx (z ▸ sub y hy)⟩⟩
    · cases e
  · rename_i es
    split at e
    · rename_i hz
      cases e
      have key : ∀ {Hs : Hp} {G : List Addr}, (∀ b o, Hs b = some o → H b = some o) → Rp S H Hs (.tup es) v G → ∃ b zs, v = .ref b ∧ H b = some (.tup zs) ∧ RpL S H Hs es zs G := by
        intro Hs G hs r
        cases r with
        | tup h r => exact ⟨_, _, rfl, hs _ _ h, r⟩
      obtain ⟨b, zs, rfl, hb, rz⟩ := key hs0 rd
      refine ⟨vs ++ zs, fun q => .inr ⟨a, b, vs, zs, rfl, rfl, ha, hb, by rw [← hl, ← rz.length]; exact hz, q⟩, by rw [List.length_append, ← hl, ← rz.length]; exact hz, fun {Hs F G} hs r1 r2 n1 n2 dj => ?_⟩
      obtain ⟨b', zs', eb, hb', rz'⟩ := key hs r2
      cases eb
      rw [hb] at hb'; cases hb'
      exact ⟨F ++ G, r1.append rz', fun x hx => List.mem_append.mp hx, List.nodup_append.mpr ⟨n1, n2, fun x hx y hy z => dj x hx (z ▸ hy)⟩⟩
    · cases e
  · cases e
end
end Fw

namespace Fw
open PySem PySem.Spec PyProof.Rows L2
section
variable {X : Cx} {B : Bs} {T ts : Tm} {ρ : En} {σ : L2.St} {H : Hp} {F : List Addr} {ps : List Opd} {ds : List D} {vs : List V} {Q : VK} {d d1 d2 d3 : D} {e a b tg : Expr} {f fe fk : En → Out D} {pos p pos' : Pos} {pa pb : Opd}
inductive PT where
  | int | bool | str | list | tuple | dict | none
def PT.nm : PT → String
  | .int => "int" | .bool => "bool" | .str => "str" | .list => "list" | .tuple => "tuple" | .dict => "dict" | .none => "NoneType"
def PT.is : PT → PT → Bool
  | .int, .int => true | .bool, .bool => true | .bool, .int => true | .str, .str => true | .list, .list => true | .tuple, .tuple => true | .dict, .dict => true | .none, .none => true
  | _, _ => false
theorem PT.kit : ∀ t c : PT, kitB t.nm c.nm = some (t.is c) := by
  intro t c
  cases t <;> cases c <;> decide +kernel
def tyD : D → PT
  | .non => .none | .bl _ => .bool | .int _ => .int | .str _ => .str | .lst _ _ => .list | .tup _ => .tuple | .dk _ _ _ => .dict | .dt _ _ _ => .dict | .rs => .dict | .ob _ _ _ _ => .none | .ev _ _ _ => .none | .tv _ => .none | .tz _ => .none
def isOb : D → Bool
  | .ob _ _ _ _ => true
  | .dt _ _ _ => true
  | .ev _ _ _ => true
  | .tv _ => true
  | .tz _ => true
  | _ => false
theorem tyD_rp {K : PySem.W.Frag} {v : V} {G : List Addr} (h : R B T ρ σ H F) (r : RpB B H F d v G) (nob : isOb d = false) : TyX K H v (.type (tyD d).nm) := by
  obtain ⟨r, _⟩ := r
  cases r with
  | non => exact .base .non
  | bl b => exact .base (.bl b)
  | int b => exact .base (.int b)
  | str b => exact .base (.str b)
  | lstS h _ => exact .base (.lst (hid_sub _ _ h))
  | lstO h _ => exact .base (.lst h)
  | tup h _ => exact .base (.tup (hid_sub _ _ h))
  | dkS h _ =>
    rcases h with h | ⟨_, h⟩
    · exact .base (.dK (hid_sub _ _ h))
    · exact .fDict (hid_sub _ _ h)
  | dkO h _ => exact .base (.dK h)
  | dtS _ _ => cases nob
  | dtO _ _ => cases nob
  | rs e =>
    have := h.st
    unfold StOk at this
    rw [e] at this
    exact .base (.dK this.2.1)
  | obS _ _ => cases nob
  | obO _ _ => cases nob
  | ev _ _ _ _ => cases nob
  | tv _ => cases nob
  | tz _ _ _ => cases nob
def opIsi (c : PT) : List D → Option D
  | [d] => if isOb d = true then none else some (.bl ((tyD d).is c))
  | _ => none
theorem opIsi_S {K : PySem.W.Frag} {c : PT} : OpS B (rr1 fun x H Q => rIsi K [x, .ty c.nm] H Q) (opIsi c) := by
  intro T ts ρ σ H F ps ds vs Q d h o e q
  unfold opIsi at e
  split at e
  · split at e
    · cases e
    · rename_i nob
      cases e
      obtain ⟨v1, G1, rfl, r1⟩ := o.one h
      exact ⟨_, _, _, _, _, rfl, .ty _, tyD_rp h r1 (by simpa using nob), kit_ty (PT.kit _ c), q _ _ _ (h.drop.push (.bl _))⟩
  · cases e
theorem ev_isi (c : PT) {x : Str} {p2 : Pos} (hg : Gl X "isinstance") (hm : X.mg "isinstance" = none) (hg2 : Gl X x) (hm2 : X.mg x = none) (hv : bootBuiltins x = some (.type c.nm)) (ha : PE X a (tOpd B pa)) (hn : x ≠ "__name__" := by decide) (hdb : (x == ("__debug__" : Str)) = false := by decide)
    (h1 : starEach [a, .Name x p2] X.env = (false, eval a X.env) :: starEach [.Name x p2] X.env := by rfl) (h2 : starEach [.Name x p2] X.env = (false, eval (.Name x p2) X.env) :: starEach [] X.env := by rfl) (hpl : (backTo pos (starEach [.Name x p2] X.env)).any (·.1) = false := by rfl) :
    PE X (.Call (.Name "isinstance" p) [a, .Name x p2] [] pos) (cE B (evOp [pa] (opIsi c))) :=
  (pe_callB call_isi hg hm boot_isinstance (pa_cons ha (pa_cons (pe_bltn (v := .ty c.nm) hg2 hm2 hv rfl hn hdb) pa_nil h2) h1) (by decide) (by decide) h1 hpl).imp fun σ H Q h => op_run (ps := [pa]) opIsi_S h
def opIsN : List D → Option D
  | [.non, .non] => some (.bl true)
  | [_, .non] => some (.bl false)
  | _ => none
def opNoN : List D → Option D
  | [.non, .non] => some (.bl false)
  | [_, .non] => some (.bl true)
  | _ => none
theorem rp_non {v : V} {G : List Addr} (r : RpB B H F d v G) (h : d ≠ .non) : v ≠ .non := by
  obtain ⟨r, _⟩ := r
  cases r <;> first | exact absurd rfl h | (intro z; cases z)
theorem opNoN_S : OpS B (rr2 fun x y H Q => y = .non ∧ Q (.bl (!decide (x = .non))) H) opNoN := by
  intro T ts ρ σ H F ps ds vs Q d h o e q
  unfold opNoN at e
  split at e
  · cases e
    obtain ⟨v1, v2, G1, G2, rfl, r1, r2⟩ := o.two h
    refine ⟨r2.non, ?_⟩
    rw [r1.non]
    exact q _ _ _ (h.drop.push (.bl false))
  · rename_i d1 hne
    cases e
    obtain ⟨v1, v2, G1, G2, rfl, r1, r2⟩ := o.two h
    refine ⟨r2.non, ?_⟩
    rw [decide_eq_false (rp_non r1 fun z => hne (by rw [z]))]
    exact q _ _ _ (h.drop.push (.bl true))
  · cases e
mutual
def pyOf : D → Option PyData
  | .non => some .none
  | .bl b => some (.bool b)
  | .int i => some (.int i)
  | .str x => some (.str x)
  | .lst _ xs => (pyOfL xs).map .list
  | .tup xs => (pyOfL xs).map .tuple
  | .dk _ _ _ => none
  | .dt _ _ _ => none
  | .rs => none
  | .ob _ _ _ _ => none
  | .ev _ _ _ => none
  | .tv _ => none
  | .tz xs => (pyOfL xs).map .tuple
def pyOfL : List D → Option (List PyData)
  | [] => some []
  | d :: ds => (pyOf d).bind fun x => (pyOfL ds).map (x :: ·)
end
mutual
theorem Rp.dp {S : Gs} {H Hs : Hp} {K : PySem.W.Frag} (hs : ∀ b o, Hs b = some o → H b = some o) : ∀ {d : D} {v : V} {G : List Addr} {y : PyData}, Rp S H Hs d v G → pyOf d = some y → Dp K H v y
  | _, _, _, _, .non, e => by rw [pyOf] at e; cases e; exact .non
  | _, _, _, _, .bl b, e => by rw [pyOf] at e; cases e; exact .bl b
  | _, _, _, _, .int b, e => by rw [pyOf] at e; cases e; exact .int b
  | _, _, _, _, .str b, e => by rw [pyOf] at e; cases e; exact .str b
  | _, _, _, _, .rs h, e => by rw [pyOf] at e; cases e
  | _, _, _, _, .lstS h r, e => by
    rw [pyOf] at e
    obtain ⟨ys, e1, e2⟩ := Option.map_eq_some_iff.mp e
    subst e2
    exact .lst (SqL.of (hs _ _ h)) (RpL.dp hs r e1)
  | _, _, _, _, .lstO h r, e => by
    rw [pyOf] at e
    obtain ⟨ys, e1, e2⟩ := Option.map_eq_some_iff.mp e
    subst e2
    exact .lst (SqL.of h) (RpL.dp hs r e1)
  | _, _, _, _, .tup h r, e => by
    rw [pyOf] at e
    obtain ⟨ys, e1, e2⟩ := Option.map_eq_some_iff.mp e
    subst e2
    exact .tup (SqT.of (hs _ _ h)) (RpL.dp hs r e1)
  | _, _, _, _, .dkS h r, e => by rw [pyOf] at e; cases e
  | _, _, _, _, .dkO h r, e => by rw [pyOf] at e; cases e
  | _, _, _, _, .dtS h r, e => by rw [pyOf] at e; cases e
  | _, _, _, _, .dtO h r, e => by rw [pyOf] at e; cases e
  | _, _, _, _, .obS h r, e => by rw [pyOf] at e; cases e
  | _, _, _, _, .obO h r, e => by rw [pyOf] at e; cases e
  | _, _, _, _, .ev h hd r z, e => by rw [pyOf] at e; cases e
  | _, _, _, _, .tv h, e => by rw [pyOf] at e; cases e
  | _, _, _, _, .tz h hd r, e => by
    rw [pyOf] at e
    obtain ⟨ys, e1, e2⟩ := Option.map_eq_some_iff.mp e
    subst e2
    exact .tup (.inl (.inr ⟨_, hs _ _ h⟩)) (RpL.dp hs r e1)
theorem RpL.dp {S : Gs} {H Hs : Hp} {K : PySem.W.Frag} (hs : ∀ b o, Hs b = some o → H b = some o) : ∀ {ds : List D} {vs : List V} {G : List Addr} {ys : List PyData}, RpL S H Hs ds vs G → pyOfL ds = some ys → DpAll K H vs ys
  | _, _, _, _, .nil, e => by rw [pyOfL] at e; cases e; exact .nil
  | _, _, _, _, .cons h r, e => by
    rw [pyOfL] at e
    obtain ⟨x, e1, e2⟩ := Option.bind_eq_some_iff.mp e
    obtain ⟨ys, e3, e4⟩ := Option.map_eq_some_iff.mp e2
    subst e4
    exact .cons (Rp.dp hs h e1) (RpL.dp hs r e3)
end
def eqvD (a b : D) : Option Bool := match eqS a b with
  | some k => some k
  | none => match pyOf a, pyOf b with
    | some x, some y => if SeqAt.shaped x = true ∧ SeqAt.shaped y = true then some (PyData.eqv x y) else none
    | _, _ => none
def opEq : List D → Option D
  | [a, b] => (eqvD a b).map .bl
  | _ => none
def opNe : List D → Option D
  | [a, b] => (eqvD a b).map fun k => .bl (!k)
  | _ => none
def rEqA (K : PySem.W.Frag) : R2 := fun x y H Q => rEq x y H Q ∨ rEqD K x y H Q
def rNeA (K : PySem.W.Frag) : R2 := fun x y H Q => rNe x y H Q ∨ rNeD K x y H Q
theorem op_eqA (hu : X.A.units + 64 < cLine) : OpR X (compareOp .Eq) (rEqA X.K) := OpR.or op_eq (op_eqD hu)
theorem op_neA (hu : X.A.units + 64 < cLine) : OpR X (compareOp .NotEq) (rNeA X.K) := OpR.or op_ne (op_neD hu)
theorem opEq_S {K : PySem.W.Frag} : OpS B (rr2 (rEqA K)) opEq := by
  intro T ts ρ σ H F ps ds vs Q d h o e q
  unfold opEq at e
  split at e
  · obtain ⟨v1, v2, G1, G2, rfl, r1, r2⟩ := o.two h
    obtain ⟨k, e1, e2⟩ := Option.map_eq_some_iff.mp e
    subst e2
    unfold eqvD at e1
    split at e1
    · rename_i k' ek
      cases e1
      obtain ⟨s1, s2⟩ := eqS_rp r1 r2 ek
      exact .inl ⟨s1, by rw [s2]; exact q _ _ _ (h.drop.push (.bl _))⟩
    · split at e1
      · rename_i x y ex ey
        split at e1
        · rename_i hsh
          cases e1
          exact .inr ⟨x, y, r1.1.dp hid_sub ex, r2.1.dp hid_sub ey, hsh.1, hsh.2, q _ _ _ (h.drop.push (.bl _))⟩
        · cases e1
      · cases e1
  · cases e
theorem opNe_S {K : PySem.W.Frag} : OpS B (rr2 (rNeA K)) opNe := by
  intro T ts ρ σ H F ps ds vs Q d h o e q
  unfold opNe at e
  split at e
  · obtain ⟨v1, v2, G1, G2, rfl, r1, r2⟩ := o.two h
    obtain ⟨k, e1, e2⟩ := Option.map_eq_some_iff.mp e
    subst e2
    unfold eqvD at e1
    split at e1
    · rename_i k' ek
      cases e1
      obtain ⟨s1, s2⟩ := eqS_rp r1 r2 ek
      exact .inl ⟨s1, by rw [s2]; exact q _ _ _ (h.drop.push (.bl _))⟩
    · split at e1
      · rename_i x y ex ey
        split at e1
        · rename_i hsh
          cases e1
          exact .inr ⟨x, y, r1.1.dp hid_sub ex, r2.1.dp hid_sub ey, hsh.1, hsh.2, q _ _ _ (h.drop.push (.bl _))⟩
        · cases e1
      · cases e1
  · cases e
def flD : D → Option V
  | .non => some .non
  | .bl b => some (.bl b)
  | .int i => some (.int i)
  | .str x => some (.str x)
  | _ => none
def flDs : List D → Option (List V)
  | [] => some []
  | d :: ds => (flD d).bind fun x => (flDs ds).map (x :: ·)
theorem flD_rp {S : Gs} {Hs : Hp} {v w : V} {G : List Addr} (r : Rp S H Hs d v G) (e : flD d = some w) : v = w ∧ flatV v = true := by
  cases r <;> simp [flD] at e <;> subst e <;> exact ⟨rfl, rfl⟩
theorem flDs_rp {S : Gs} {Hs : Hp} : ∀ {ds : List D} {vs ws : List V} {G : List Addr}, RpL S H Hs ds vs G → flDs ds = some ws → vs = ws ∧ vs.all flatV = true
  | _, _, _, _, .nil, e => by rw [flDs] at e; cases e; exact ⟨rfl, rfl⟩
  | _, _, _, _, .cons h r, e => by
    rw [flDs] at e
    obtain ⟨x, e1, e2⟩ := Option.bind_eq_some_iff.mp e
    obtain ⟨ys, e3, e4⟩ := Option.map_eq_some_iff.mp e2
    subst e4
    obtain ⟨h1, h2⟩ := flD_rp h e1
    obtain ⟨h3, h4⟩ := flDs_rp r e3
    exact ⟨by rw [h1, h3], by rw [List.all_cons, h2, h4]; rfl⟩
def keyD : D → Option Key
  | .int i => some (.inl i)
  | .str x => some (.inr x)
  | _ => none
theorem keyD_rp {S : Gs} {Hs : Hp} {v : V} {G : List Addr} {k : Key} (r : Rp S H Hs d v G) (e : keyD d = some k) : v = kV k := by
  cases r <;> simp [keyD] at e <;> subst e <;> rfl
def getD : List Key → List D → Key → Option D
  | k :: ks, x :: xs, q => if k = q then some x else getD ks xs q
  | _, _, _ => none
theorem getD_rp {S : Gs} {Hs : Hp} {q : Key} : ∀ {kvs : List (Key × V)} {ds : List D} {G : List Addr}, RpL S H Hs ds (kvs.map (·.2)) G → match getD (kvs.map (·.1)) ds q with
    | some d => ∃ v G', valV kvs q = some v ∧ Rp S H Hs d v G' ∧ ∀ x ∈ G', x ∈ G
    | none => valV kvs q = none
  | [], ds, G, r => by
    cases r
    show valV [] q = none
    rfl
  | (k, v) :: kvs, ds, G, r => by
    generalize hvs : ((k, v) :: kvs).map (·.2) = vs at r
    cases r with
    | nil => cases hvs
    | @cons d0 v0 ds vs F1 G1 h r =>
      rw [List.map_cons] at hvs
      injection hvs with e1 e2
      subst e1; subst e2
      rw [List.map_cons, getD]
      dsimp only
      by_cases hk : k = q
      · rw [if_pos hk]
        exact ⟨v, F1, valV_pos (p := (k, v)) hk, h, fun x hx => List.mem_append_left _ hx⟩
      · rw [if_neg hk]
        have ih := getD_rp (q := q) r
        rw [valV_neg (p := (k, v)) hk]
        split at ih
        · rename_i d' ed
          obtain ⟨v', G', h1, h2, h3⟩ := ih
          exact ⟨v', G', h1, h2, fun x hx => List.mem_append_right _ (h3 x hx)⟩
        · rename_i ed
          exact ih
def inDeep (x : D) (xs : List D) : Option Bool := match pyOf x, pyOfL xs with
  | some d, some ds => if SeqAt.shaped d = true ∧ SeqAt.shaped (.tuple ds) = true ∧ PyData.depthAll ds = 0 then some (ds.any fun z => PyData.eqv z d) else none
  | _, _ => none
def inD (x s : D) : Option Bool := match s with
  | .dk _ ks xs => (keyD x).map fun k => (getD ks xs k).isSome
  | .lst _ xs => (flD x).bind fun v => (flDs xs).map fun vs => inV v vs
  | .tup xs => match (flD x).bind fun v => (flDs xs).map fun vs => inV v vs with
    | some b => some b
    | none => inDeep x xs
  | _ => none
def rInT (K : PySem.W.Frag) (neg : Bool) : R2 := fun x y H Q => ∃ d ds, Dp K H x d ∧ Dp K H y (.tuple ds) ∧ SeqAt.shaped d = true ∧ SeqAt.shaped (.tuple ds) = true ∧ PyData.depthAll ds = 0 ∧ Q (.bl (if neg then !ds.any fun z => PyData.eqv z d else ds.any fun z => PyData.eqv z d)) H
theorem op_inTup (hu : X.A.units + 1 < cLine) : OpR X (compareOp .In) (rInT X.K false) := by
  intro pins s σ H x y v u Q I rx ry h
  obtain ⟨d, ds, hd, he, sd, se, hz, q⟩ := h
  obtain ⟨as, r1⟩ := Dp.reads I d x v hd rx
  obtain ⟨bs, r2⟩ := Dp.reads I (.tuple ds) y u he ry
  exact SeqAt.in_tuple_reads r2 r1 (SeqAt.canLay_of_shaped se) (SeqAt.canLay_of_shaped sd) (by rw [hz]; omega) ⟨.bl _, H, I, rfl, q⟩
theorem op_notInTup (hu : X.A.units + 1 < cLine) : OpR X (compareOp .NotIn) (rInT X.K true) := by
  intro pins s σ H x y v u Q I rx ry h
  obtain ⟨d, ds, hd, he, sd, se, hz, q⟩ := h
  obtain ⟨as, r1⟩ := Dp.reads I d x v hd rx
  obtain ⟨bs, r2⟩ := Dp.reads I (.tuple ds) y u he ry
  exact SeqAt.notIn_tuple_reads r2 r1 (SeqAt.canLay_of_shaped se) (SeqAt.canLay_of_shaped sd) (by rw [hz]; omega) ⟨.bl _, H, I, rfl, q⟩
def rInA (K : PySem.W.Frag) (neg : Bool) : R2 := fun x y H Q => rIn K neg x y H Q ∨ (∃ a o, y = .ref a ∧ DGet H a x o ∧ Q (.bl (if neg then !o.isSome else o.isSome)) H) ∨ rInT K neg x y H Q
theorem op_inA (hu : X.A.units + 1 < cLine) : OpR X (compareOp .In) (rInA X.K false) := OpR.or op_in_seq (OpR.or (by
  intro pins s σ H x y v u Q I rx ry ⟨a, o, ey, g, q⟩
  subst ey
  cases ry
  exact d_in hu I g rx fun s' I' => ⟨.bl o.isSome, H, I', rfl, q⟩) (op_inTup hu))
theorem op_notInA (hu : X.A.units + 1 < cLine) : OpR X (compareOp .NotIn) (rInA X.K true) := OpR.or op_notIn_seq (OpR.or (by
  intro pins s σ H x y v u Q I rx ry ⟨a, o, ey, g, q⟩
  subst ey
  cases ry
  exact d_notIn hu I g rx fun s' I' => ⟨.bl (!o.isSome), H, I', rfl, q⟩) (op_notInTup hu))
def opIn (neg : Bool) : List D → Option D
  | [x, s] => (inD x s).map fun k => .bl (if neg then !k else k)
  | _ => none
theorem dk_rp {S : Gs} {Hs : Hp} {v : V} {G : List Addr} {o : Bool} {ks : List Key} {xs : List D} (hs : ∀ b o, Hs b = some o → H b = some o) (r : Rp S H Hs (.dk o ks xs) v G) : ∃ a kvs G', v = .ref a ∧ Rd H a (.dK kvs) ∧ ks = kvs.map (·.1) ∧ RpL S H Hs xs (kvs.map (·.2)) G' ∧ ∀ x ∈ G', x ∈ G := by
  generalize e : D.dk o ks xs = d at r
  cases r <;> cases e
  · rename_i h r
    exact ⟨_, _, _, rfl, rd_mono h hs, rfl, r, fun _ z => z⟩
  · rename_i h r
    exact ⟨_, _, _, rfl, .inl h, rfl, r, fun _ z => List.mem_cons_of_mem _ z⟩
theorem dk_own {S : Gs} {Hs : Hp} {v : V} {G : List Addr} {ks : List Key} {xs : List D} (r : Rp S H Hs (.dk true ks xs) v G) : ∃ a kvs G', v = .ref a ∧ H a = some (.dK kvs) ∧ ks = kvs.map (·.1) ∧ RpL S H Hs xs (kvs.map (·.2)) G' ∧ ∀ x ∈ G', x ∈ G := by
  generalize e : D.dk true ks xs = d at r
  cases r <;> cases e
  rename_i h r
  exact ⟨_, _, _, rfl, h, rfl, r, fun _ z => List.mem_cons_of_mem _ z⟩
theorem opIn_S {K : PySem.W.Frag} {neg : Bool} : OpS B (rr2 (rInA K neg)) (opIn neg) := by
  intro T ts ρ σ H F ps ds vs Q d h o e q
  unfold opIn at e
  split at e
  · obtain ⟨v1, v2, G1, G2, rfl, r1, r2⟩ := o.two h
    obtain ⟨k, e1, e2⟩ := Option.map_eq_some_iff.mp e
    subst e2
    unfold inD at e1
    split at e1
    · obtain ⟨k', e3, e4⟩ := Option.map_eq_some_iff.mp e1
      subst e4
      obtain ⟨a, kvs, G', rfl, ha, rfl, rl, _⟩ := dk_rp hid_sub r2.1
      have g := getD_rp (q := k') rl
      rw [keyD_rp r1.1 e3]
      refine .inr (.inl ⟨a, _, rfl, .inl ⟨_, _, ha, rfl, rfl⟩, ?_⟩)
      split at g
      · rename_i dd ed
        obtain ⟨v, G'', h1, _, _⟩ := g
        rw [h1]
        rw [ed] at q
        exact q _ _ _ (h.drop.push (.bl _))
      · rename_i ed
        rw [g]
        rw [ed] at q
        exact q _ _ _ (h.drop.push (.bl _))
    · obtain ⟨x, e3, e4⟩ := Option.bind_eq_some_iff.mp e1
      obtain ⟨ws, e5, e6⟩ := Option.map_eq_some_iff.mp e4
      subst e6
      obtain ⟨a, vs, G', rfl, ha, rl⟩ := seqR_lst r2
      obtain ⟨rfl, fx⟩ := flD_rp r1.1 e3
      obtain ⟨rfl, fs⟩ := flDs_rp rl e5
      exact .inl ⟨a, _, rfl, .inl (SqL.of ha), fx, fs, q _ _ _ (h.drop.push (.bl _))⟩
    · split at e1
      · rename_i b0 e0
        cases e1
        obtain ⟨x, e3, e4⟩ := Option.bind_eq_some_iff.mp e0
        obtain ⟨ws, e5, e6⟩ := Option.map_eq_some_iff.mp e4
        subst e6
        obtain ⟨rt, _⟩ := r2
        cases rt with
        | tup ht rl =>
          obtain ⟨rfl, fx⟩ := flD_rp r1.1 e3
          obtain ⟨rfl, fs⟩ := flDs_rp rl e5
          exact .inl ⟨_, _, rfl, .inr (SqT.of (hid_sub _ _ ht)), fx, fs, q _ _ _ (h.drop.push (.bl _))⟩
      · rename_i xs _ _
        unfold inDeep at e1
        split at e1
        · rename_i d ds e3 e4
          split at e1
          · rename_i hc
            cases e1
            have e5 : pyOf (.tup xs) = some (.tuple ds) := by rw [pyOf, e4]; rfl
            exact .inr (.inr ⟨d, ds, r1.1.dp hid_sub e3, r2.1.dp hid_sub e5, hc.1, hc.2.1, hc.2.2, q _ _ _ (h.drop.push (.bl _))⟩)
          · cases e1
        · cases e1
    · cases e1
  · cases e
end
end Fw

namespace Fw
open PySem PySem.Spec PyProof.Rows L2
def mtSet (w : World) : Obj := { cls := .type "set", dict := none, data := .set #[] 0 (.fresh 0 0 (!w.params.followText "set-order")) }
section
variable {P : Program} {w : World} {A : Around} {E : Value → Shared → Prop} {s : Shared}
def SetMade (w : World) (s : Shared) (ns : List Int) (s2 : Shared) : Prop := ∃ (h' : Heap) (tk c : Nat), s2 = { s with heap := h', toks := tk } ∧ SetR w h' s.heap.objs.size (fun j => decide (j ∈ ns)) c ∧ c ≤ ns.length ∧ ∀ b o, s.heap.get? b = some o → h'.get? b = some o
set_option maxHeartbeats 4000000 in
theorem fill_list {l : Addr} {items : Array Value} {ns : List Int} (hh : A.handled = none) (hl : s.heap.IsList l items) (hi : IntsAre items.toList ns) (hb : ns.length + 1 < scanBound) :
    codeAny (model P w) A (.call (.builtin "set.__init__") ⟨[.ref s.heap.objs.size, .ref l], []⟩) (wants (fun r s2 => r = .none ∧ SetMade w s ns s2) E) { s with heap := s.heap.push (mtSet w) } := by
  have sz : items.size = ns.length := by rw [← Array.length_toList]; exact hi.length
  obtain ⟨g, eg⟩ : ∃ g, g = s.heap.push (mtSet w) := ⟨_, rfl⟩
  have gset : g.get? s.heap.objs.size = some (mtSet w) := by rw [eg]; exact Heap.get?_push_size _ rfl
  have gold : ∀ b o, s.heap.get? b = some o → g.get? b = some o := fun b o q => by rw [eg]; exact Heap.get?_push_of_some _ q
  have gsz : g.objs.size = s.heap.objs.size + 1 := by rw [eg]; exact Heap.size_push ..
  obtain ⟨oL, hoL, cL, nL, dL⟩ := id hl
  have lsmall : l < s.heap.objs.size := Heap.lt_size hoL
  have gl : g.IsList l items := ⟨oL, gold _ _ hoL, cL, nL, dL⟩
  rw [← eg]
  have tS : Shared.TypeIs { s with heap := g } (.ref s.heap.objs.size) "set" := ⟨mtSet w, gset, rfl⟩
  refine codeAny_call_builtin F.called_set.init.plain F.entry_set_init (check_set_init_1 tS ?_)
  have q1 := F.sub_list_set
  have q2 := F.sub_list_frozenset
  have q3 : (Value.type "list" == Value.type "dict") = false := by decide
  have tL : Shared.TypeIs { s with heap := g } (.ref l) "list" := ⟨oL, gold _ _ hoL, cL⟩
  unfold Builtin.«set.__init__» noKeywords Builtin.Frozenset.updateFrom
  obtain ⟨⟨cls, dct, dat, sl⟩, hoL', c2, n2, d2⟩ := id gl
  simp only at c2 d2
  subst c2; subst d2
  unfold mtSet at gset
  generalize eI : pyIter = PI
  wp_walk
  subst eI
  refine wpAny_pyIter_list gl (wpAny_bind (wpAny_runValue ?_))
  have dist : l ≠ g.objs.size := Nat.ne_of_lt (Nat.lt_trans lsmall (show s.heap.objs.size < g.objs.size by omega))
  have apart : s.heap.objs.size ∉ [g.objs.size, l] := by
    intro z
    rcases List.mem_cons.mp z with z | z
    · exact Nat.ne_of_lt (show s.heap.objs.size < g.objs.size by omega) z
    · exact Nat.ne_of_lt lsmall (List.mem_singleton.mp z).symm
  have vals : ∀ (i : Nat) (v : Value), items[i]? = some v → ∃ k t, ns[i]? = some k ∧ v = .int k t := fun i v hv => by
    have lt : i < ns.length := by rw [← sz]; exact (Array.getElem?_eq_some_iff.mp hv).1
    obtain ⟨t, e⟩ := IntsAre.int_at hi i v (by rw [Array.getElem?_toList]; exact hv)
    exact ⟨ns[i], t, List.getElem?_eq_getElem lt, by rw [e, List.getD_eq_getElem?_getD, List.getElem?_eq_getElem lt]; rfl⟩
  have hA : A.in1.in1.handled = none := hh
  refine set_update_ints (Walks.list hA _ l dist items).toS s.heap.objs.size apart ns sz hb vals (items.size - 0) 0 _ rfl (Nat.zero_le _) ⟨⟨_, Heap.get?_push_size _ rfl, rfl, rfl⟩, gl.push _⟩ ?start ?fin
  case start => exact ⟨0, Nat.le_refl 0, setR_new_at (Heap.get?_push_of_some _ gset)⟩
  case fin =>
    rintro ⟨h2, g2, d3, tk, os⟩ c mv hc hS
    obtain rfl : g2 = s.gens := mv.gens
    obtain rfl : d3 = s.drawn := mv.drawn
    obtain rfl : os = s.os := mv.os
    refine wpAny_pure (wpAny_pure ⟨rfl, h2, tk, c, rfl, hS, by omega, fun b o q => mv.heap b o ?_ (Heap.get?_push_of_some _ (gold b o q))⟩)
    have lt : b < s.heap.objs.size := Heap.lt_size q
    intro z
    rcases List.mem_cons.mp z with z | z
    · exact Nat.ne_of_lt lt z
    · exact Nat.ne_of_lt (Nat.lt_trans lt (show s.heap.objs.size < g.objs.size by omega)) (List.mem_singleton.mp z)
set_option maxHeartbeats 4000000 in
theorem call_setL {l : Addr} {items : Array Value} {ns : List Int} {Q : Value → Shared → Prop} (hh : A.handled = none) (hl : s.heap.IsList l items) (hi : IntsAre items.toList ns) (hb : ns.length + 1 < scanBound)
    (h : ∀ s2, SetMade w s ns s2 → Q (.ref s.heap.objs.size) s2) : wpAny (model P w) A (call (.type "set") [.ref l]) Q E s := by
  obtain ⟨mc, ml, m1⟩ := F.called_set.mro
  have m2 := F.called_set.made
  have m3 := F.called_set.sub
  refine wpAny_call (codeAny_of_tree ?_)
  show wpAny _ _ (callAny (.type "set") ⟨[.ref l], []⟩) _ _ _
  refine wpAny_pure ⟨Code.quiet_builtin _ (by decide +kernel), codeAny_builtin F.entry_type_call ?_⟩
  rw [Around.under_plain (weight_type_call_type "set" [.ref l] []) rfl]
  have m4 := F.called_set.notType
  have m5 := F.called_set.canCreate
  have m6 := F.typeCall_set_1 (.ref l)
  repeat (any_goals (first | assumption | wp_step))
  have made : codeAny (model P w) A.in1 (.call (.builtin "set.__new__") ⟨[.type "set", .ref l], []⟩) (wants (fun v s1 => v = .ref s.heap.objs.size ∧ s1 = { s with heap := s.heap.push (mtSet w) }) E) s := code_set_led1 (.ref l) ⟨rfl, rfl⟩
  refine codeAny_mono made fun r s1 hr => ?_
  match r, hr with
  | .error _, hr => exact hr
  | .ok .next, hr => exact hr.elim
  | .ok .brk, hr => exact hr.elim
  | .ok .cont, hr => exact hr.elim
  | .ok (.ret v), hr =>
    obtain ⟨rfl, rfl⟩ := hr
    have gset : (s.heap.push (mtSet w)).get? s.heap.objs.size = some (mtSet w) := Heap.get?_push_size _ rfl
    have tS : Shared.TypeIs { s with heap := s.heap.push (mtSet w) } (.ref s.heap.objs.size) "set" := ⟨_, gset, rfl⟩
    have m7 := F.called_set.init.lookup
    have m8 := F.called_set.init.bind (.ref s.heap.objs.size)
    repeat (any_goals (first | assumption | wp_step))
    refine codeAny_mono (fill_list (E := E) hh hl hi hb) fun r2 s2 hr2 => ?_
    match r2, hr2 with
    | .error _, hr2 => exact hr2
    | .ok .next, hr2 => exact hr2.elim
    | .ok .brk, hr2 => exact hr2.elim
    | .ok .cont, hr2 => exact hr2.elim
    | .ok (.ret v), hr2 =>
      obtain ⟨rfl, hm⟩ := hr2
      have fin := h s2 hm
      repeat (any_goals (first | assumption | wp_step))
end
def rSetL (K : PySem.W.Frag) (w : World) : List V → Hp → VK → Prop := fun vs H Q => ∃ (a : Addr) (ns : List Int), vs = [.ref a] ∧ SqL K H a (ns.map V.int) ∧ ns.length < 4000 ∧ ∀ p c, H p = none → c ≤ ns.length → Q (.ref p) (upd H p (SetO w p (fun j => decide (j ∈ ns)) c))
theorem call_setInts {X : Cx} (hc : X.calm = true) : CallR X (.type "set") (rSetL X.K X.w) := by
  intro pins s σ H vs us Q I r ⟨a, ns, e, hs, h64, q⟩
  subst e
  rw [Vals.ref1 r]
  obtain ⟨its, rv, pl, hz⟩ := I.list hs
  have hi : IntsAre its.toArray.toList ns := by simpa using intsAre_of rv
  refine call_setL (I.ok.hd hc) pl.isList hi (by unfold scanBound; omega) fun s2 ⟨h', tk, c, e2, R2, hc2, k⟩ => ?_
  subst e2
  exact ⟨.ref s.heap.objs.size, _, I.laid (t' := tk) k (Nat.le_refl _) (setO_new R2), rfl, q _ c (I.hok.fresh (Nat.le_refl _)) hc2⟩
def rSetTp (w : World) : List V → Hp → VK → Prop := fun vs H Q => ∃ (a : Addr) (ns : List Int), vs = [.ref a] ∧ H a = some (.tup (ns.map V.int)) ∧ ns.length < 4000 ∧ ∀ p c, H p = none → c ≤ ns.length → Q (.ref p) (upd H p (SetO w p (fun j => decide (j ∈ ns)) c))
theorem call_setTp {X : Cx} (hc : X.calm = true) : CallR X (.type "set") (rSetTp X.w) := by
  intro pins s σ H vs us Q I r ⟨a, ns, e, hs, h64, q⟩
  subst e
  rw [Vals.ref1 r]
  obtain ⟨z, its, rv, pl⟩ := I.hok a _ hs
  have hi : IntsAre its.toArray.toList ns := by simpa using intsAre_of rv
  refine call_set_tupI ns (I.ok.hd hc) (show s.heap.IsTuple a its.toArray from pl) hi (by unfold scanBound; omega) fun h' tk c R2 hc2 k => ?_
  exact ⟨.ref s.heap.objs.size, _, I.laid (t' := tk) k (Nat.le_refl _) (setO_new R2), rfl, q _ c (I.hok.fresh (Nat.le_refl _)) hc2⟩
def rSetAny (K : PySem.W.Frag) (w : World) : List V → Hp → VK → Prop := fun vs H Q => rSetL K w vs H Q ∨ rSetTp w vs H Q
theorem call_setA {X : Cx} (hc : X.calm = true) : CallR X (.type "set") (rSetAny X.K X.w) := (call_setInts hc).or (call_setTp hc)
end Fw

namespace Fw
open PySem PySem.Spec PyProof.Rows L2
def insI (x : Int) : List Int → List Int
  | [] => [x]
  | y :: ys => if x ≤ y then x :: y :: ys else y :: insI x ys
def sortI : List Int → List Int
  | [] => []
  | x :: xs => insI x (sortI xs)
theorem insI_perm (x : Int) : ∀ ys, (insI x ys).Perm (x :: ys)
  | [] => .refl _
  | y :: ys => by
    rw [insI]
    split
    · exact .refl _
    · exact ((insI_perm x ys).cons y).trans (.swap x y ys)
theorem insI_mem {x z : Int} {ys : List Int} : z ∈ insI x ys ↔ z = x ∨ z ∈ ys := by rw [(insI_perm x ys).mem_iff, List.mem_cons]
theorem insI_sorted (x : Int) : ∀ ys : List Int, ys.Pairwise (· ≤ ·) → (insI x ys).Pairwise (· ≤ ·)
  | [], _ => by simp [insI]
  | y :: ys, h => by
    obtain ⟨h1, h2⟩ := List.pairwise_cons.mp h
    rw [insI]
    split
    · rename_i hxy
      exact List.pairwise_cons.mpr ⟨fun z hz => (List.mem_cons.mp hz).elim (fun e => e ▸ hxy) fun hz => Int.le_trans hxy (h1 z hz), h⟩
    · exact List.pairwise_cons.mpr ⟨fun z hz => (insI_mem.mp hz).elim (fun e => by omega) (h1 z), insI_sorted x ys h2⟩
theorem sortI_perm : ∀ xs, (sortI xs).Perm xs
  | [] => .refl _
  | x :: xs => (insI_perm x _).trans ((sortI_perm xs).cons x)
theorem sortI_sorted : ∀ xs, (sortI xs).Pairwise (· ≤ ·)
  | [] => .nil
  | x :: xs => insI_sorted x _ (sortI_sorted xs)
theorem sortI_eq {xs ys : List Int} (h : ys.Perm xs) (s : ys.Pairwise (· ≤ ·)) : ys = sortI xs := PySem.W.ksm_same (h.trans (sortI_perm xs).symm) s (sortI_sorted xs)
def insU (x : Int) : List Int → List Int
  | [] => [x]
  | y :: ys => if x < y then x :: y :: ys else if x = y then y :: ys else y :: insU x ys
def sortU : List Int → List Int
  | [] => []
  | x :: xs => insU x (sortU xs)
theorem insU_mem {x z : Int} : ∀ {ys : List Int}, z ∈ insU x ys ↔ z = x ∨ z ∈ ys
  | [] => by simp [insU]
  | y :: ys => by
    rw [insU]
    split
    · simp
    · split
      · rename_i e
        subst e
        simp
      · rw [List.mem_cons, insU_mem (ys := ys), List.mem_cons]
        constructor
        · rintro (h | h | h)
          · exact .inr (.inl h)
          · exact .inl h
          · exact .inr (.inr h)
        · rintro (h | h | h)
          · exact .inr (.inl h)
          · exact .inl h
          · exact .inr (.inr h)
theorem insU_sorted (x : Int) : ∀ ys : List Int, ys.Pairwise (· < ·) → (insU x ys).Pairwise (· < ·)
  | [], _ => by simp [insU]
  | y :: ys, h => by
    obtain ⟨h1, h2⟩ := List.pairwise_cons.mp h
    rw [insU]
    split
    · rename_i hxy
      exact List.pairwise_cons.mpr ⟨fun z hz => (List.mem_cons.mp hz).elim (fun e => e ▸ hxy) fun hz => Int.lt_trans hxy (h1 z hz), h⟩
    · split
      · exact h
      · exact List.pairwise_cons.mpr ⟨fun z hz => (insU_mem.mp hz).elim (fun e => by omega) (h1 z), insU_sorted x ys h2⟩
theorem sortU_mem {z : Int} : ∀ {xs : List Int}, z ∈ sortU xs ↔ z ∈ xs
  | [] => by simp [sortU]
  | x :: xs => by rw [sortU, insU_mem, sortU_mem (xs := xs), List.mem_cons]
theorem sortU_sorted : ∀ xs, (sortU xs).Pairwise (· < ·)
  | [] => .nil
  | x :: xs => insU_sorted x _ (sortU_sorted xs)
theorem strict_same : ∀ {a b : List Int}, a.Pairwise (· < ·) → b.Pairwise (· < ·) → (∀ z, z ∈ a ↔ z ∈ b) → a = b
  | [], [], _, _, _ => rfl
  | [], y :: b, _, _, h => absurd ((h y).mpr List.mem_cons_self) (by simp)
  | x :: a, [], _, _, h => absurd ((h x).mp List.mem_cons_self) (by simp)
  | x :: a, y :: b, ha, hb, h => by
    obtain ⟨a1, a2⟩ := List.pairwise_cons.mp ha
    obtain ⟨b1, b2⟩ := List.pairwise_cons.mp hb
    have e : x = y := by
      rcases List.mem_cons.mp ((h x).mp List.mem_cons_self) with e | e
      · exact e
      · rcases List.mem_cons.mp ((h y).mpr List.mem_cons_self) with e2 | e2
        · exact e2.symm
        · have := b1 x e
          have := a1 y e2
          omega
    subst e
    rw [strict_same a2 b2 fun z => ?_]
    constructor
    · intro hz
      rcases List.mem_cons.mp ((h z).mp (List.mem_cons_of_mem _ hz)) with e | e
      · subst e; exact absurd (a1 z hz) (Int.lt_irrefl _)
      · exact e
    · intro hz
      rcases List.mem_cons.mp ((h z).mpr (List.mem_cons_of_mem _ hz)) with e | e
      · subst e; exact absurd (b1 z hz) (Int.lt_irrefl _)
      · exact e
theorem sortU_eq {xs ys : List Int} (s : ys.Pairwise (· < ·)) (h : ∀ z, z ∈ ys ↔ z ∈ xs) : ys = sortU xs := strict_same s (sortU_sorted xs) fun z => by rw [h, sortU_mem]
section
variable {X : Cx} {B : Bs} {T ts : Tm} {ρ : En} {σ : L2.St} {H : Hp} {F : List Addr} {ps : List Opd} {ds : List D} {vs : List V} {Q : VK} {d d1 d2 d3 : D} {e a b tg o : Expr} {f fe fk : En → Out D} {pos p p2 pos' pos2 : Pos} {pa pb pc : Opd}
theorem seqR_tup {v : V} {G : List Addr} {xs : List D} (r : RpB B H F (.tup xs) v G) : ∃ a vs G', v = .ref a ∧ H a = some (.tup vs) ∧ RpL B.S H (hid (B.M ++ F) H) xs vs G' := by
  obtain ⟨r, _⟩ := r
  cases r with
  | tup h r => exact ⟨_, _, _, rfl, hid_sub _ _ h, r⟩
def intKeys : List Key → Option (List Int)
  | [] => some []
  | .inl i :: ks => (intKeys ks).map (i :: ·)
  | .inr _ :: _ => none
theorem intKeys_some : ∀ {ks : List Key} {ns : List Int}, intKeys ks = some ns → ks = ns.map Sum.inl
  | [], ns, e => by cases e; rfl
  | .inl i :: ks, ns, e => by
    obtain ⟨m, e1, rfl⟩ := Option.map_eq_some_iff.mp (show (intKeys ks).map (i :: ·) = some ns from e)
    rw [intKeys_some e1]; rfl
  | .inr _ :: _, ns, e => by cases e
def rSortDK : List V → Hp → VK → Prop := fun vs H Q => ∃ (a : Addr) (kvs : List (Key × V)) (ks : List Int), vs = [.ref a] ∧ Rd H a (.dK kvs) ∧ kvs.map (·.1) = ks.map Sum.inl ∧
  ∀ (ns : List Int) (p : Addr), ns.Perm ks → ns.Pairwise (· ≤ ·) → H p = none → Q (.ref p) (upd H p (.lst (ns.map V.int)))
theorem cr_sortDK (hc : X.calm = true) : CallR X (.builtin "sorted") rSortDK := by
  intro pins s σ H vs us Q I r ⟨a, kvs, ks, ev, ha, hk, q⟩
  subst ev
  rw [Vals.ref1 r]
  obtain ⟨z, lo, prs, rel, dd⟩ := dk_rd I.hok ha
  obtain ⟨ep, at_⟩ := dd.dictAt
  have keys : prs.map (·.1) = ks.map Sum.inl := rel.keys.symm.trans hk
  have len : prs.length = ks.length := by simpa using congrArg List.length keys
  have lz : ks.length ≤ sizeLine := by rw [← len, ← rel.length]; exact z
  refine Calls.call_function_entry kind_sorted plain_sorted entry_sorted (args_sorted1 _) (show wpAny _ _ (Builtin.«sorted» _) _ _ _ from ?_)
  unfold Builtin.«sorted»
  refine wpAny_bind (m := checkCount "sorted" 1 1 _) (wpAny_pure (wpAny_bind (PySem.W.kdu_collect (A := X.A.in1) (PySem.W.kdl_dict (knd := mixKind X.prog X.w) (kvs := prs) (ep := ep) lo) (I.ok.hd hc) at_ (by rw [len]; exact lz) fun h' tk acc old hacc => ?_)))
  have al : acc.toList.length = ks.length := by rw [Array.length_toList, hacc.1, len]
  have aI : IntsAre acc.toList ks := ints_each al fun j v e => by
    obtain ⟨k, x, e1, e2⟩ := hacc.2 j v (by rwa [Array.getElem?_toList] at e)
    have e3 := congrArg (fun l => l[j]?) keys
    simp only [List.getElem?_map, e1, Option.map_some] at e3
    obtain ⟨y, e4, e5⟩ := Option.map_eq_some_iff.mp e3.symm
    subst e5
    rcases keyIs_shape (show keyIs (Sum.inl y) v = true from e2) with ⟨i, t, ek, ev⟩ | ⟨i, t, ek, ev⟩ <;> cases ek
    exact ⟨_, t, e4, ev⟩
  have I1 : Inv X pins σ H { s with heap := h', toks := tk } := I.kept old
  refine wpAny_bind (wpAny_newList ?_ (by rw [al]; exact lz))
  have here : (h'.push (seqObj "list" acc.toList.toArray 0)).get? h'.objs.size = some (seqObj "list" acc.toList.toArray 0) := Heap.get?_push_size _ rfl
  show wpAny _ _ _ _ _ { s with heap := h'.push (seqObj "list" acc.toList.toArray 0), toks := tk }
  refine wpAny_bind (wpAny_holding (wpAny_call_entry slot_list_sort ⟨_, here, rfl⟩ entry_list_sort (SrtO.list_sort_ord (s := { s with heap := h'.push (seqObj "list" acc.toList.toArray 0), toks := tk }) SrtO.swo_int here (by rw [al]; exact lz) (fun two => SrtO.ints_sortable aI two) fun out o1 o2 => ⟨_, rfl, ?_⟩) (args_list_sort _)))
  obtain ⟨i1, i2, i3⟩ := SrtO.ints_out aI o1 o2
  obtain ⟨c, hc'⟩ := sortedHeap_at (vs := acc.toList) (out := out.toArray) here
  have oz : ((out.map SrtO.iv).map V.int).length ≤ sizeLine := by rw [List.length_map, i2.length_eq]; exact lz
  refine wpAny_pure ⟨_, rfl, .ref h'.objs.size, upd H h'.objs.size (.lst ((out.map SrtO.iv).map V.int)), I1.laid (t' := tk) (fun b u e => ?_) (Nat.le_refl _)
    (show ObjOk X.prog X.w _ _ _ (.lst ((out.map SrtO.iv).map V.int)) from ⟨oz, out, c, vals_of_ints i1, hc'⟩), rfl, q _ _ i2 i3 (I1.hok.fresh (Nat.le_refl _))⟩
  have lt := Heap.lt_size e
  rw [sortedHeap_old (Nat.ne_of_lt lt) (by rw [size_push']; exact Nat.lt_succ_of_lt lt)]
  exact Heap.get?_push_of_some _ e
def rSortTI : List V → Hp → VK → Prop := fun vs H Q => ∃ (a : Addr) (ks : List Int), vs = [.ref a] ∧ H a = some (.tup (ks.map V.int)) ∧
  ∀ (ns : List Int) (p : Addr), ns.Perm ks → ns.Pairwise (· ≤ ·) → H p = none → Q (.ref p) (upd H p (.lst (ns.map V.int)))
theorem cr_sortTI : CallR X (.builtin "sorted") rSortTI := by
  intro pins s σ H vs us Q I r ⟨a, ks, ev, ha, q⟩
  subst ev
  rw [Vals.ref1 r]
  obtain ⟨z, its, rv, o0, ho0, hc0, n0, hd0⟩ := I.hok a _ ha
  have aI : IntsAre its ks := rv.ints
  have al : its.length = ks.length := by simpa using rv.length.symm
  have lz : ks.length ≤ sizeLine := by simpa using z
  refine Calls.call_function_entry kind_sorted plain_sorted entry_sorted (args_sorted1 _) (show wpAny _ _ (Builtin.«sorted» _) _ _ _ from ?_)
  unfold Builtin.«sorted»
  refine wpAny_bind (m := checkCount "sorted" 1 1 _) (wpAny_pure (wpAny_bind (wpAny_collect_seq (A := X.A.in1) a (.inr rfl) ho0 hc0 hd0 (fun h' old => ?_) (by rw [List.size_toArray, al]; exact lz))))
  have I1 : Inv X pins σ H { s with heap := h', toks := s.toks } := I.kept old
  refine wpAny_bind (wpAny_newList ?_ (by simpa [al] using lz))
  have here : (h'.push (seqObj "list" its.toArray 0)).get? h'.objs.size = some (seqObj "list" its.toArray 0) := Heap.get?_push_size _ rfl
  show wpAny _ _ _ _ _ { s with heap := h'.push (seqObj "list" its.toArray 0), toks := s.toks }
  refine wpAny_bind (wpAny_holding (wpAny_call_entry slot_list_sort ⟨_, here, rfl⟩ entry_list_sort (SrtO.list_sort_ord (s := { s with heap := h'.push (seqObj "list" its.toArray 0), toks := s.toks }) SrtO.swo_int here (by rw [al]; exact lz) (fun two => SrtO.ints_sortable aI two) fun out o1 o2 => ⟨_, rfl, ?_⟩) (args_list_sort _)))
  obtain ⟨i1, i2, i3⟩ := SrtO.ints_out aI o1 o2
  obtain ⟨c, hc'⟩ := sortedHeap_at (vs := its) (out := out.toArray) here
  have oz : ((out.map SrtO.iv).map V.int).length ≤ sizeLine := by rw [List.length_map, i2.length_eq]; exact lz
  refine wpAny_pure ⟨_, rfl, .ref h'.objs.size, upd H h'.objs.size (.lst ((out.map SrtO.iv).map V.int)), I1.laid (t' := s.toks) (fun b u e => ?_) (Nat.le_refl _)
    (show ObjOk X.prog X.w _ _ _ (.lst ((out.map SrtO.iv).map V.int)) from ⟨oz, out, c, vals_of_ints i1, hc'⟩), rfl, q _ _ i2 i3 (I1.hok.fresh (Nat.le_refl _))⟩
  have lt := Heap.lt_size e
  rw [sortedHeap_old (Nat.ne_of_lt lt) (by rw [size_push']; exact Nat.lt_succ_of_lt lt)]
  exact Heap.get?_push_of_some _ e
def ipD (p : Int × Int) : D := .tup [.int p.1, .int p.2]
def ipOf : D → Option (Int × Int)
  | .tup [.int a, .int b] => some (a, b)
  | _ => none
def ipsOf : List D → Option (List (Int × Int))
  | [] => some []
  | d :: ds => (ipOf d).bind fun p => (ipsOf ds).map (p :: ·)
theorem ipOf_some {d : D} {p : Int × Int} (e : ipOf d = some p) : d = ipD p := by
  unfold ipOf at e
  split at e <;> cases e
  rfl
theorem ipsOf_some : ∀ {ds : List D} {ps : List (Int × Int)}, ipsOf ds = some ps → ds = ps.map ipD
  | [], ps, e => by cases e; rfl
  | d :: ds, ps, e => by
    obtain ⟨p, e1, e2⟩ := Option.bind_eq_some_iff.mp (show (ipOf d).bind (fun p => (ipsOf ds).map (p :: ·)) = some ps from e)
    obtain ⟨m, e3, rfl⟩ := Option.map_eq_some_iff.mp e2
    rw [ipsOf_some e3, ipOf_some e1]; rfl
def insP (x : Int × Int) : List (Int × Int) → List (Int × Int)
  | [] => [x]
  | y :: ys => if SrtO.lexB y x = true then y :: insP x ys else x :: y :: ys
def sortP : List (Int × Int) → List (Int × Int)
  | [] => []
  | x :: xs => insP x (sortP xs)
theorem insP_perm (x : Int × Int) : ∀ ys, (insP x ys).Perm (x :: ys)
  | [] => .refl _
  | y :: ys => by
    rw [insP]
    split
    · exact ((insP_perm x ys).cons y).trans (.swap x y ys)
    · exact .refl _
theorem sortP_perm : ∀ xs, (sortP xs).Perm xs
  | [] => .refl _
  | x :: xs => (insP_perm x _).trans ((sortP_perm xs).cons x)
abbrev leP (x y : Int × Int) : Prop := x.1 < y.1 ∨ (x.1 = y.1 ∧ x.2 ≤ y.2)
theorem leP_iff {x y : Int × Int} : SrtO.lexB y x = false ↔ leP x y := by
  rw [SrtO.lexB_no]
  unfold leP
  omega
theorem insP_sorted (x : Int × Int) : ∀ ys : List (Int × Int), ys.Pairwise leP → (insP x ys).Pairwise leP
  | [], _ => by simp [insP]
  | y :: ys, h => by
    obtain ⟨h1, h2⟩ := List.pairwise_cons.mp h
    rw [insP]
    split
    · rename_i hxy
      have hxy := SrtO.lexB_iff.mp hxy
      refine List.pairwise_cons.mpr ⟨fun z hz => ?_, insP_sorted x ys h2⟩
      rcases List.mem_cons.mp ((insP_perm x ys).mem_iff.mp hz) with e | e
      · subst e; unfold leP; omega
      · exact h1 z e
    · rename_i hxy
      have hxy : leP x y := leP_iff.mp (by simpa using hxy)
      refine List.pairwise_cons.mpr ⟨fun z hz => ?_, h⟩
      rcases List.mem_cons.mp hz with e | e
      · subst e; exact hxy
      · have := h1 z e
        unfold leP at *; omega
theorem sortP_sorted : ∀ xs, (sortP xs).Pairwise leP
  | [] => .nil
  | x :: xs => insP_sorted x _ (sortP_sorted xs)
theorem pairs_same : ∀ {a b : List (Int × Int)}, a.Pairwise leP → b.Pairwise leP → a.Perm b → a = b
  | [], b, _, _, h => h.nil_eq
  | x :: a, [], _, _, h => absurd h.symm.nil_eq (by simp)
  | x :: a, y :: b, ha, hb, h => by
    obtain ⟨a1, a2⟩ := List.pairwise_cons.mp ha
    obtain ⟨b1, b2⟩ := List.pairwise_cons.mp hb
    have e : x = y := by
      rcases List.mem_cons.mp (h.mem_iff.mp (List.mem_cons_self (a := x) (l := a))) with e | e
      · exact e
      · rcases List.mem_cons.mp (h.mem_iff.mpr (List.mem_cons_self (a := y) (l := b))) with e2 | e2
        · exact e2.symm
        · have h1 := b1 x e
          have h2 := a1 y e2
          unfold leP at h1 h2
          exact Prod.ext (by omega) (by omega)
    subst e
    rw [pairs_same a2 b2 h.cons_inv]
theorem sortP_eq {xs ys : List (Int × Int)} (h : ys.Perm xs) (s : ys.Pairwise leP) : ys = sortP xs := pairs_same s (sortP_sorted xs) (h.trans (sortP_perm xs).symm)
def hPr (H : Hp) : V → Int × Int
  | .ref t => match H t with
    | some (.tup [.int a, .int b]) => (a, b)
    | _ => (0, 0)
  | _ => (0, 0)
theorem prs_rp {S : Gs} {H Hs : Hp} (hs : ∀ b o, Hs b = some o → H b = some o) : ∀ {ps : List (Int × Int)} {vs : List V} {G : List Addr}, RpL S H Hs (ps.map ipD) vs G →
    G = [] ∧ vs.map (hPr H) = ps ∧ ∀ v ∈ vs, ∃ t, v = V.ref t ∧ Hs t = some (.tup [.int (hPr H v).1, .int (hPr H v).2])
  | [], _, _, r => by cases r; simp
  | p :: ps, _, _, r => by
    cases r with
    | cons h r =>
      obtain ⟨g, e, k⟩ := prs_rp hs r
      subst g
      unfold ipD at h
      cases h with
      | tup ha rr =>
        cases rr with
        | cons h1 rr =>
          cases rr with
          | cons h2 rr =>
            cases rr
            cases h1
            cases h2
            rename_i a
            have ek : hPr H (V.ref a) = p := by unfold hPr; simp [hs _ _ ha]
            refine ⟨rfl, by rw [List.map_cons, e, ek], fun v hv => ?_⟩
            rcases List.mem_cons.mp hv with e | hv
            · subst e
              exact ⟨a, rfl, by rw [ek]; exact ha⟩
            · exact k v hv
theorem rp_prs {S : Gs} {H Hs H' Hs' : Hp} (k : ∀ b o, Hs b = some o → Hs' b = some o) : ∀ {vs : List V}, (∀ v ∈ vs, ∃ t, v = V.ref t ∧ Hs t = some (.tup [.int (hPr H v).1, .int (hPr H v).2])) →
    RpL S H' Hs' ((vs.map (hPr H)).map ipD) vs []
  | [], _ => .nil
  | v :: vs, h => by
    obtain ⟨t, e, ht⟩ := h v List.mem_cons_self
    refine .cons0 ?_ (rp_prs k fun w hw => h w (List.mem_cons_of_mem _ hw))
    have : Rp S H' Hs' (ipD (hPr H v)) (V.ref t) [] := .tup (k _ _ ht) (.cons0 (.int _) (.cons0 (.int _) .nil))
    rwa [← e] at this
def opSort : List D → Option D
  | [.lst _ xs] => match intsOf xs with
    | some ns => some (.lst true ((sortI ns).map .int))
    | none => (ipsOf xs).map fun ps => .lst true ((sortP ps).map ipD)
  | [.tup xs] => (intsOf xs).map fun ns => .lst true ((sortI ns).map .int)
  | [.dk _ ks xs] => if ks.length ≤ sizeLine then (intKeys ks).map fun ns => .lst true ((sortI ns).map .int) else none
  | _ => none
def rSortA (K : PySem.W.Frag) : List V → Hp → VK → Prop := fun vs H Q => rSortedI K vs H Q ∨ rSortDK vs H Q ∨ rSortTI vs H Q ∨ rSortedPO K vs H Q
theorem cr_sortA (hc : X.calm = true) : CallR X (.builtin "sorted") (rSortA X.K) := cr_sortedI.or ((cr_sortDK hc).or (cr_sortTI.or cr_sortedPO))
theorem opSort_S {K : PySem.W.Frag} : OpS B (rSortA K) opSort := by
  intro T ts ρ σ H F ps ds vs Q d h o e q
  unfold opSort at e
  split at e
  · obtain ⟨v1, G1, rfl, r1⟩ := o.one h
    obtain ⟨a, vs, G', rfl, ha, ra⟩ := seqR_lst r1
    split at e
    · rename_i ns e1
      cases e
      have ev := intsOf_rp ra e1
      subst ev
      refine .inl ⟨a, ns, rfl, SqL.of ha, fun ns' p pm so hp => ?_⟩
      have en := sortI_eq pm so
      subst en
      refine q _ _ _ (h.drop.newL (ints_rpl _) hp ?_)
      rw [List.length_map, (sortI_perm ns).length_eq]
      have := h.hl _ _ (.inl ha)
      rwa [List.length_map] at this
    · obtain ⟨pr, e1, e2⟩ := Option.map_eq_some_iff.mp e
      subst e2
      have ex := ipsOf_some e1
      subst ex
      obtain ⟨g, ek, k⟩ := prs_rp hid_sub ra
      refine .inr (.inr (.inr ⟨a, vs, hPr H, rfl, SqL.of ha, fun v hv => ?_, fun ys p so st hp => ?_⟩))
      · obtain ⟨t, et, ht⟩ := k v hv
        exact ⟨t, et, hid_sub _ _ ht⟩
      · have en : ys.map (hPr H) = sortP pr := sortP_eq (by rw [← ek]; exact st.perm.map _) (List.pairwise_map.mpr (so.imp fun h => leP_iff.mp h))
        have z : R B (T ++ [(D.lst true ((ys.map (hPr H)).map ipD), .ref p)]) ρ σ (upd H p (.lst ys)) (p :: F) := h.drop.newL (rp_prs (fun _ _ e => e) fun v hv => k v (st.perm.mem_iff.mp hv)) hp (by
          rw [st.perm.length_eq]
          exact h.hl _ _ (.inl ha))
        rw [en] at z
        exact q _ _ _ z
  · obtain ⟨v1, G1, rfl, r1⟩ := o.one h
    obtain ⟨ns, e1, e2⟩ := Option.map_eq_some_iff.mp e
    subst e2
    obtain ⟨a, vs, G', rfl, ha, ra⟩ := seqR_tup r1
    have ev := intsOf_rp ra e1
    subst ev
    refine .inr (.inr (.inl ⟨a, ns, rfl, ha, fun ns' p pm so hp => ?_⟩))
    have en := sortI_eq pm so
    subst en
    refine q _ _ _ (h.drop.newL (ints_rpl _) hp ?_)
    rw [List.length_map, (sortI_perm ns).length_eq]
    have := h.hl _ _ (.inr ha)
    rwa [List.length_map] at this
  · split at e
    · rename_i lz
      obtain ⟨ns, e1, e2⟩ := Option.map_eq_some_iff.mp e
      subst e2
      obtain ⟨v1, G1, rfl, r1⟩ := o.one h
      obtain ⟨a, kvs, G', rfl, ha, ek, rl, _⟩ := dk_rp hid_sub r1.1
      have e3 := intKeys_some e1
      refine .inr (.inl ⟨a, kvs, ns, rfl, ha, by rw [← ek, e3], fun ns' p pm so hp => ?_⟩)
      have en := sortI_eq pm so
      subst en
      refine q _ _ _ (h.drop.newL (ints_rpl _) hp ?_)
      rw [List.length_map, (sortI_perm ns).length_eq]
      rwa [e3, List.length_map] at lz
    · cases e
  · cases e
end
section
variable {P : Program} {w : World} {A : Around} {E : Value → Shared → Prop} {s : Shared}
theorem sortedSet_any {a : Addr} {S : Int → Bool} {n : Nat} {Q : Value → Shared → Prop} (R : SetR w s.heap a S n) (hh : A.handled = none)
    (k : ∀ (t : Shared) (p : Addr) (out : Array Value) (c : Nat) (ns : List Int), (∀ b o, s.heap.get? b = some o → t.heap.get? b = some o) → t.gens = s.gens → t.os = s.os → s.heap.objs.size ≤ p → t.heap.get? p = some (seqObj "list" out c) → IntsAre out.toList ns → ns.Pairwise (· < ·) → (∀ z, z ∈ ns ↔ S z = true) → ns.length = n → Q (.ref p) t) :
    wpAny (model P w) A (call (.builtin "sorted") [.ref a]) Q E s := by
  obtain ⟨ob, es, ep, tb, h1, h2, h3, good, dup, mem, few, fit, cnt, ris, led⟩ := R
  refine Calls.call_function_entry kind_sorted plain_sorted entry_sorted (args_sorted1 _) (show wpAny _ _ (Builtin.«sorted» _) _ _ _ from ?_)
  unfold Builtin.«sorted»
  refine wpAny_bind (m := checkCount "sorted" 1 1 _) (wpAny_pure (wpAny_bind (collect_set (A := A.in1) hh ⟨ob, h1, h2.1, h3⟩ fit few ris led fun s1 us old1 sz1 gen1 os1 perm => ?_)))
  have ul : us.length = n := by rw [perm.length_eq, List.length_map, Array.length_toList]; exact cnt
  have uI : IntsAre us (us.map Builtin.Re.reRawOf) := ints_of us fun u hu => by
    obtain ⟨e, he, q⟩ := List.mem_map.mp (perm.mem_iff.mp hu)
    obtain ⟨z, tk, eq, _⟩ := good e he
    exact ⟨z, tk, q ▸ eq⟩
  have pk : (us.map Builtin.Re.reRawOf).Perm (es.toList.map keyOf) := by
    have := perm.map Builtin.Re.reRawOf
    rwa [List.map_map] at this
  have uz : us.length ≤ sizeLine := by
    rw [ul, ← cnt, sizeLine_eq]
    unfold scanBound at few
    omega
  refine wpAny_bind (wpAny_newList ?_ uz)
  have here : (s1.heap.push (seqObj "list" us.toArray 0)).get? s1.heap.objs.size = some (seqObj "list" us.toArray 0) := Heap.get?_push_size _ rfl
  refine wpAny_bind (wpAny_holding (wpAny_call_entry slot_list_sort ⟨_, here, rfl⟩ entry_list_sort (SrtO.list_sort_ord SrtO.swo_int here uz (fun two => SrtO.ints_sortable uI two) fun out o1 o2 => ⟨_, rfl, ?_⟩) (args_list_sort _)))
  obtain ⟨i1, i2, i3⟩ := SrtO.ints_out uI o1 o2
  obtain ⟨c, hc⟩ := sortedHeap_at (vs := us) (out := out.toArray) here
  have pn := i2.trans pk
  refine wpAny_pure ⟨_, rfl, k _ s1.heap.objs.size out.toArray c (out.map SrtO.iv) (fun b u e => ?_) gen1 os1 sz1 hc (by simpa using i1) (lt_of_le_nodup _ i3 (pn.nodup_iff.mpr dup)) (fun z => by rw [pn.mem_iff, ← mem z]) (by rw [pn.length_eq, List.length_map, Array.length_toList]; exact cnt)⟩
  have old := old1 b u e
  have lt := Heap.lt_size old
  show (sortedHeap (s1.heap.push (seqObj "list" us.toArray 0)) s1.heap.objs.size us out.toArray).get? b = some u
  rw [sortedHeap_old (Nat.ne_of_lt lt) (by rw [size_push']; exact Nat.lt_succ_of_lt lt)]
  exact Heap.get?_push_of_some _ old
end
def rSSetI (w : World) : List V → Hp → VK → Prop := fun vs H Q => ∃ (a : Addr) (S : Int → Bool) (n : Nat), vs = [V.ref a] ∧ H a = some (SetO w a S n) ∧ n ≤ sizeLine ∧
  ∀ (ns : List Int) (p : Addr), ns.Pairwise (· < ·) → (∀ z : Int, z ∈ ns ↔ S z = true) → ns.length = n → H p = none → Q (.ref p) (upd H p (.lst (ns.map V.int)))
theorem cr_sSetI {X : Cx} (hc : X.calm = true) : CallR X (.builtin "sorted") (rSSetI X.w) := by
  intro pins s σ H vs us Q I r ⟨a, S, n, ev, ha, hz, q⟩
  subst ev
  rw [Vals.ref1 r]
  refine sortedSet_any (setO_get I ha) (I.ok.hd hc) fun t p out c ns old g o hp at_ hi so mem len => ?_
  have lz : (ns.map V.int).length ≤ sizeLine := by rw [List.length_map, len]; exact hz
  have fresh : H p = none := I.hok.fresh hp
  have J : Inv X pins σ (upd H p (.lst (ns.map V.int))) { s with heap := t.heap, gens := t.gens, drawn := t.drawn, toks := t.toks } :=
    I.call (ch := []) (Un.laid old hp fresh) (I.hok.laid old hp ⟨lz, out.toList, c, vals_of_ints hi, at_⟩) (by rw [g]; exact I.bare) (fun _ z => nomatch z)
  have et : t = { s with heap := t.heap, gens := t.gens, drawn := t.drawn, toks := t.toks } := by
    obtain ⟨_, _, _, _, _⟩ := t
    cases o
    rfl
  rw [et]
  exact ⟨.ref p, _, J, rfl, q ns p so mem len fresh⟩
section
variable {X : Cx} {B : Bs} {T ts : Tm} {ρ : En} {σ : L2.St} {H : Hp} {F : List Addr} {ps : List Opd} {ds : List D} {vs : List V} {Q : VK} {d d1 d2 d3 : D} {e a b tg o : Expr} {f fe fk : En → Out D} {pos p p2 pos' pos2 : Pos} {pa pb pc : Opd}
def opSSet : List D → Option D
  | [.tup xs] => (intsOf xs).bind fun ns => if ns.length < 4000 then some (.lst true ((sortU ns).map .int)) else none
  | [.lst _ xs] => (intsOf xs).bind fun ns => if ns.length < 4000 then some (.lst true ((sortU ns).map .int)) else none
  | _ => none
theorem ev_sset (hc : X.calm = true) (hg : Gl X "sorted") (hm : X.mg "sorted" = none) (hg2 : Gl X "set") (hm2 : X.mg "set" = none) (ha : PE X a (tOpd B pa)) (h1 : starEach [a] X.env = (false, eval a X.env) :: starEach [] X.env := by rfl)
    (h2 : starEach [.Call (.Name "set" p2) [a] [] pos2] X.env = (false, eval (.Call (.Name "set" p2) [a] [] pos2) X.env) :: starEach [] X.env := by rfl) : PE X (.Call (.Name "sorted" p) [.Call (.Name "set" p2) [a] [] pos2] [] pos) (cE B (evOp [pa] opSSet)) :=
  (pe_callB (cr_sSetI hc) hg hm boot_sorted (pa_cons (pe_callTy (call_setA hc) hg2 hm2 boot_set (pa_cons ha pa_nil h1) (by decide) (by decide) h1 rfl) pa_nil h2) (by decide) (by decide) h2 rfl).imp fun σ H Q h =>
    op_run (ps := [pa]) (r := fun vs H Q => rSetAny X.K X.w vs H fun x H2 => rSSetI X.w [x] H2 Q) (by
      intro T ts ρ σ H F ps ds vs Q d h o e q
      unfold opSSet at e
      split at e
      · obtain ⟨v1, G1, rfl, r1⟩ := o.one h
        obtain ⟨ns, e1, e2⟩ := Option.bind_eq_some_iff.mp e
        split at e2
        · rename_i h64
          cases e2
          obtain ⟨a, vs, G', rfl, ha, ra⟩ := seqR_tup r1
          have ev := intsOf_rp ra e1
          subst ev
          refine .inr ⟨a, ns, rfl, ha, h64, fun p c hp hc => ⟨p, _, c, rfl, upd_same, by rw [sizeLine_eq]; omega, fun ns' p' so mem hl hp' => ?_⟩⟩
          have en : ns' = sortU ns := sortU_eq so fun z => by rw [mem]; simp
          subst en
          have g := h.drop.grow (H' := upd H p (SetO X.w p (fun j => decide (j ∈ ns)) c)) (same_upd hp) (h.hl.upd (by intro ws e; rcases e with e | e <;> cases e))
          refine q _ _ _ (g.newL (ints_rpl _) hp' ?_)
          rw [List.length_map, hl, sizeLine_eq]
          omega
        · cases e2
      · obtain ⟨v1, G1, rfl, r1⟩ := o.one h
        obtain ⟨ns, e1, e2⟩ := Option.bind_eq_some_iff.mp e
        split at e2
        · rename_i h64
          cases e2
          obtain ⟨a, vs, G', rfl, ha, ra⟩ := seqR_lst r1
          have ev := intsOf_rp ra e1
          subst ev
          refine .inl ⟨a, ns, rfl, SqL.of ha, h64, fun p c hp hc => ⟨p, _, c, rfl, upd_same, by rw [sizeLine_eq]; omega, fun ns' p' so mem hl hp' => ?_⟩⟩
          have en : ns' = sortU ns := sortU_eq so fun z => by rw [mem]; simp
          subst en
          have g := h.drop.grow (H' := upd H p (SetO X.w p (fun j => decide (j ∈ ns)) c)) (same_upd hp) (h.hl.upd (by intro ws e; rcases e with e | e <;> cases e))
          refine q _ _ _ (g.newL (ints_rpl _) hp' ?_)
          rw [List.length_map, hl, sizeLine_eq]
          omega
        · cases e2
      · cases e) h
def rIxA (K : PySem.W.Frag) : R2 := fun x y H Q => rIx K x y H Q ∨ ∃ a v, x = .ref a ∧ DGet H a y (some v) ∧ Q v H
theorem ix_any (hu : X.A.units + 1 < cLine) : IxR X (rIxA X.K) := ix_seq.or (by
  intro value slice pins s σ H x y v u Q I rx ry ⟨a, w, ex, g, q⟩ hp
  subst ex
  cases rx
  have tD := dict_typeIs I g
  have item : wpAny (model X.prog X.w) X.A (getItem (.ref a) u) (EP X pins σ Q) X.xe s := d_getItem hu I g ry fun w' s' I' r' => ⟨w, H, I', r', q⟩
  have tail : wpAny (model X.prog X.w) X.A (subscripted slice false (.ref a) u) (fun r s1 => wpAny (model X.prog X.w) X.A (letTemporaryGo value (.ref a) r >>= fun _ => pure r) (EP X pins σ Q) X.xe s1) X.xe s := by
    rw [hp]
    exact wpAny_operating (thn item fun r s1 z => wpAny_bind (wpAny_letTemporaryGo (wpAny_pure z)))
  unfold subscriptTail
  refine wpAny_bind ?_
  rw [getitemInPython_of_ne tD.not_modules]
  refine wpAny_bind (wpAny_specialOf tD PySem.F.slot_dict_getitem.lookup ?_)
  first | exact wpAny_pure (wpAny_bind tail) | exact wpAny_bind (wpAny_pure (wpAny_bind tail)) | exact wpAny_bind tail)
def opIxA : List D → Option D
  | [.dk o ks xs, k] => match keyD k with
    | some q => match getD ks xs q with
      | some d => if shr d = true then some d else none
      | none => none
    | none => none
  | ds => opIx ds
theorem opIxA_S {K : PySem.W.Frag} : OpS B (rr2 (rIxA K)) opIxA := by
  intro T ts ρ σ H F ps ds vs Q d h o e q
  unfold opIxA at e
  split at e
  · split at e
    · rename_i q0 ek
      split at e
      · rename_i d' ed
        split at e
        · rename_i hsd
          cases e
          obtain ⟨v1, v2, G1, G2, rfl, r1, r2⟩ := o.two h
          obtain ⟨a, kvs, G', rfl, ha, rfl, rl, _⟩ := dk_rp hid_sub r1.1
          have g := getD_rp (q := q0) rl
          rw [ed] at g
          obtain ⟨v, G'', h1, h2, _⟩ := g
          have := h2.shr hsd
          subst this
          refine .inr ⟨a, v, rfl, ?_, q _ _ _ (h.drop.push h2)⟩
          rw [keyD_rp r2.1 ek, ← h1]
          exact .inl ⟨_, _, ha, rfl, rfl⟩
        · cases e
      · cases e
    · cases e
  · have z : rr2 (rIx K) vs H Q := opIx_S (K := K) (B := B) h o e q
    unfold rr2 at z ⊢
    split at z
    · exact .inl z
    · exact z.elim
end
end Fw

namespace Fw
open PySem PySem.Spec PyProof.Rows L2
section
variable {X : Cx} {B : Bs} {T ts : Tm} {ρ : En} {σ : L2.St} {H : Hp} {F : List Addr} {ps : List Opd} {ds : List D} {vs : List V} {Q : VK} {d d1 d2 d3 : D} {e a b tg o : Expr} {f fe fk : En → Out D} {pos p p2 pos' pos2 : Pos} {pa pb pc : Opd}
theorem PSet.or {t t' : TSet} (h : PSet X t) (h' : PSet X t') : PSet X (fun o i v H Q => t o i v H Q ∨ t' o i v H Q) := by
  intro pins s σ H o i v ov iv u Q I r1 r2 r3 q
  rcases q with q | q
  · exact h pins s σ H o i v ov iv u Q I r1 r2 r3 q
  · exact h' pins s σ H o i v ov iv u Q I r1 r2 r3 q
def rSetDc : TSet := fun o i v H Q => ∃ a H4, o = .ref a ∧ DPut H a i v H4 ∧ Q H4
theorem set_dct (hu : X.A.units + 1 < cLine) : PSet X rSetDc := by
  intro pins s σ H o i v ov iv u Q I r1 r2 r3 ⟨a, H4, e, g, q⟩
  subst e
  cases r1
  exact d_setItem hu I g r2 r3 fun s' I' => ⟨H4, I', q⟩
def rSetA : TSet := fun o i v H Q => L2.rSetL o i v H Q ∨ rSetDc o i v H Q
theorem set_any (hu : X.A.units + 1 < cLine) : PSet X rSetA := PSet.or set_list (set_dct hu)
def hasK (ks : List Key) (k : Key) : Bool := ks.any fun q => decide (q = k)
def putKs (ks : List Key) (k : Key) : List Key := if hasK ks k = true then ks else ks ++ [k]
def putXs : List Key → List D → Key → D → List D
  | q :: ks, x :: xs, k, d => if q = k then d :: xs else x :: putXs ks xs k d
  | _, _, _, d => [d]
def sSet (i : Nat) (fk fe : En → Out D) : En → Out Fl := fun ρ => (fe ρ).bind fun d ρ1 => match ρ1.vs[i]? with
  | some (.ow _) => (fk ρ1).bind fun k ρ2 => match ρ2.vs[i]? with
    | some (.ow (.lst true ds)) => match k with
      | .int j => match ixN ds.length j with
        | some m => .ok .nx { ρ2 with vs := ρ2.vs.set i (.ow (.lst true (ds.set m d))) }
        | none => .no
      | _ => .no
    | some (.ow (.dk true ks ds)) => match keyD k with
      | some q => if ds.length < sizeLine ∧ ks.Nodup then .ok .nx { ρ2 with vs := ρ2.vs.set i (.ow (.dk true (putKs ks q) (putXs ks ds q d))) } else .no
      | none => .no
    | _ => .no
  | _ => .no
theorem put_keys {kvs : List (Key × V)} {q : Key} {v : V} : (putK kvs q v).map (·.1) = putKs (kvs.map (·.1)) q := by
  unfold putK putKs
  have e : (kvs.any fun kv => decide (kv.1 = q)) = hasK (kvs.map (·.1)) q := by
    unfold hasK
    rw [List.any_map]; rfl
  rw [e]
  by_cases h : hasK (kvs.map (·.1)) q = true
  · rw [if_pos h, if_pos h, List.map_map]
    apply List.map_congr_left
    intro x _
    simp only [Function.comp]
    split <;> rfl
  · rw [if_neg h, if_neg h, List.map_append]; rfl
theorem put_rp {S : Gs} {Hs : Hp} {q : Key} {v : V} {G2 : List Addr} (hv : Rp S H Hs d v G2) (n2 : G2.Nodup) : ∀ {kvs : List (Key × V)} {ds : List D} {G : List Addr}, (kvs.map (·.1)).Nodup → RpL S H Hs ds (kvs.map (·.2)) G → G.Nodup → (∀ x, x ∈ G → x ∉ G2) →
    ∃ G', RpL S H Hs (putXs (kvs.map (·.1)) ds q d) ((putK kvs q v).map (·.2)) G' ∧ (∀ x ∈ G', x ∈ G ∨ x ∈ G2) ∧ G'.Nodup
  | [], ds, G, _, r, n1, dj => by
    cases r
    exact ⟨G2 ++ [], .cons hv .nil, fun x hx => .inr (by simpa using hx), by simpa using n2⟩
  | (k, w) :: kvs, ds, G, nk, r, n1, dj => by
    generalize hvs : ((k, w) :: kvs).map (·.2) = vs at r
    cases r with
    | nil => cases hvs
    | @cons d0 v0 ds vs F1 G1 h r =>
      rw [List.map_cons] at hvs
      injection hvs with e1 e2
      subst e1; subst e2
      obtain ⟨m1, m2, m3⟩ := List.nodup_append.mp n1
      rw [List.map_cons] at nk ⊢
      obtain ⟨nk1, nk2⟩ := List.nodup_cons.mp nk
      rw [putXs]
      by_cases hk : k = q
      · rw [if_pos hk]
        have e : putK ((k, w) :: kvs) q v = (k, v) :: kvs := by
          unfold putK
          rw [List.any_cons, decide_eq_true hk, Bool.true_or, if_pos rfl, List.map_cons]
          dsimp only
          rw [if_pos hk]
          congr 1
          conv => rhs; rw [← List.map_id kvs]
          apply List.map_congr_left
          intro x hx
          rw [if_neg]
          · rfl
          · intro z
            exact nk1 (List.mem_map.mpr ⟨x, hx, by rw [z, hk]⟩)
        rw [e]
        exact ⟨G2 ++ G1, .cons hv r, fun x hx => (List.mem_append.mp hx).elim .inr fun z => .inl (List.mem_append_right _ z), List.nodup_append.mpr ⟨n2, m2, fun x hx y hy z => dj y (List.mem_append_right _ hy) (z ▸ hx)⟩⟩
      · rw [if_neg hk]
        obtain ⟨G', r', sub, nd'⟩ := put_rp (q := q) hv n2 nk2 r m2 fun x hx => dj x (List.mem_append_right _ hx)
        have e : putK ((k, w) :: kvs) q v = (k, w) :: putK kvs q v := by
          unfold putK
          rw [List.any_cons, decide_eq_false hk, Bool.false_or]
          split
          · rw [List.map_cons]; dsimp only; rw [if_neg hk]
          · rfl
        rw [e]
        refine ⟨F1 ++ G', .cons h r', fun x hx => ?_, List.nodup_append.mpr ⟨m1, nd', fun x hx y hy z => ?_⟩⟩
        · rcases List.mem_append.mp hx with z | z
          · exact .inl (List.mem_append_left _ z)
          · exact (sub x z).imp (fun z => List.mem_append_right _ z) id
        · subst z
          rcases sub x hy with z | z
          · exact m3 x hx x z rfl
          · exact dj x (List.mem_append_left _ hx) z
theorem es_seti {i : Nat} (h : PS X (.Assign [.Subscript o a p] e pos) (tAsg (cE B fe) (gSub (tL B i) (cE B fk) rSetA))) : PS X (.Assign [.Subscript o a p] e pos) (cS B (sSet i fk fe)) := h.imp fun D' σ H ⟨T, ρ, F, r, q⟩ => by
  refine ⟨T, ρ, F, r, Out.wp_mono (Out.wp_bind q) (fun d ρ1 q v H1 F1 r1 => ?_) fun _ _ z => exS z⟩
  split at q
  · rename_i d0 e0
    obtain ⟨w, ew⟩ := r1.there e0 rfl
    refine ⟨w, ew, r1.at, _, ρ1, F1, r1, Out.wp_mono (Out.wp_bind q) (fun k ρ2 q kv H2 F2 r2 => ?_) fun x ρ2 z cls dd H F xr r => z cls dd σ H F xr r.drop⟩
    obtain ⟨G, rk, _⟩ := top_rp r2
    have r3 := r2.drop1
    split at q
    · rename_i ds e1
      split at q
      · rename_i j
        split at q
        · rename_i m em
          cases rk
          obtain ⟨a, vs0, ea, ha⟩ := own_lst r3 e1
          rw [ew] at ea; cases ea
          obtain ⟨vs, ha2, hl, step⟩ := r3.mutL (ts := [(d, v)]) e1 ew
          rw [ha] at ha2; cases ha2
          refine .inl ⟨a, vs0, _, m, rfl, rfl, ha, by rw [hl]; exact em, q σ _ F2 (R.mutL' r3 e1 ew ha (by rw [List.length_set]; exact r3.hl _ _ (.inl ha)) fun {Hs F G} hs x1 x2 n1 n2 dj => RpL.set x2 n2 m x1 n1 dj)⟩
        · exact q.elim
      · exact q.elim
    · rename_i ks ds e1
      split at q
      · rename_i q0 ek
        split at q
        · rename_i hz
          obtain ⟨fp, pt⟩ := r3.pt
          obtain ⟨v', ev', rr⟩ := (show RpV _ _ _ (.ow (.dk true ks ds)) _ _ from pt.sl i _ e1)
          rw [ew] at ev'; cases ev'
          obtain ⟨a, kvs0, G0, rfl, ha, ekk, _, _⟩ := dk_own rr
          obtain ⟨kvs, ha2, hks, hl, step⟩ := r3.mutD (ts := [(d, v)]) e1 ew
          rw [ha] at ha2; cases ha2
          have st := step (putXs ks ds q0 d) (putK kvs0 q0 v) (fun {Hs F G} hs x1 x2 n1 n2 dj => by
            rw [← hks]
            exact put_rp (one_rpl x2) n2 (by rw [hks]; exact hz.2) x1 n1 dj)
          rw [put_keys, hks] at st
          exact .inr ⟨a, _, rfl, .inl ⟨kvs0, q0, ha, keyD_rp rk ek, by rw [← hl]; exact hz.1, rfl⟩, q σ _ F2 st⟩
        · exact q.elim
      · exact q.elim
    · exact q.elim
  · exact q.elim
def evNewK : En → Out D := fun ρ => .ok (.dk true [] []) ρ
theorem ev_newK : PE X (.Dict [] [] pos) (cE B evNewK) := pe_dnewK.imp fun σ H Q ⟨T, ρ, F, r, q⟩ => fun p hp => by
  have := R.make (ts := []) (keep := true) (o := .dK []) (d := .dk true [] []) (p := p) (by rw [List.append_nil]; exact r) hp (by intro vs e; rcases e with e | e <;> cases e) (fun {H' Hs' G} e1 _ rl => by
    cases rl
    rw [if_pos rfl]
    exact Rp.dkO (kvs := []) e1 .nil)
  exact q _ _ _ this
end
end Fw

namespace Fw
open PySem PySem.Spec PyProof.Rows L2
def mixF (cell turn many : Int) : Int :=
  let m := (cell % 2147483629 + turn * turn * 7919 + 11) * 48271 % 2147483647
  let m2 := m * m % 2147483587
  (m2 + turn * 104729) * 39373 % 2147483629 / 64 % many
def takeF (st : RSt) (many : Int) : Int × RSt :=
  let turn := st.turn + 1
  let place := (turn % (st.cells.length : Int)).toNat
  let cell := st.cells.getD place 0
  if 10 ^ 18 ≤ cell then (cell % many, ⟨st.cells.set place (cell / many), turn⟩) else (mixF cell turn many, ⟨st.cells, turn⟩)
def RSt.good (st : RSt) (room : Nat) : Prop := st.cells ≠ [] ∧ st.cells.length ≤ 63 ∧ 0 ≤ st.turn ∧ st.turn + room ≤ 2 ^ 60
def takeOk (st : RSt) (n : Int) : Bool := decide (0 < n) && decide (n < 1073741824) && decide (0 ≤ st.turn) && decide (st.turn < 2 ^ 60) && decide (0 < st.cells.length) && decide (st.cells.length ≤ 63)
def takeD : Den := fun ds st => match ds with
  | [.rs, .int n] => if takeOk st n = true then .ok (.int (takeF st n).1) (takeF st n).2 else .no
  | _ => .no
theorem takeD_inv (ds : List D) (st : RSt) : takeD ds st = .no ∨ ∃ n, ds = [.rs, .int n] ∧ takeOk st n = true ∧ takeD ds st = .ok (.int (takeF st n).1) (takeF st n).2 := by
  unfold takeD
  split
  · rename_i n
    by_cases h : takeOk st n = true
    · exact .inr ⟨n, rfl, h, if_pos h⟩
    · exact .inl (if_neg h)
  · exact .inl rfl
theorem takeF_cells (st : RSt) (n : Int) : (takeF st n).2.cells.length = st.cells.length := by
  unfold takeF
  dsimp only
  split <;> simp
theorem takeF_turn (st : RSt) (n : Int) : (takeF st n).2.turn = st.turn + 1 := by
  unfold takeF
  dsimp only
  split <;> rfl
theorem takeF_range (st : RSt) (n : Int) (h : 0 < n) : 0 ≤ (takeF st n).1 ∧ (takeF st n).1 < n := by
  unfold takeF
  dsimp only
  split
  · exact ⟨Int.emod_nonneg _ (by omega), Int.emod_lt_of_pos _ h⟩
  · exact ⟨Int.emod_nonneg _ (by omega), Int.emod_lt_of_pos _ h⟩
def cellsF (ns : List Int) : List Int := if ns = [] then [7] else ns
theorem StOk.put {s c : Addr} {cl : Str → Addr} {st st' : RSt} {H H' : Hp} (h : StOk ⟨some (s, c), cl⟩ st H) (e : H' = upd (upd H s (.dK [(.inr "cells", .ref c), (.inr "turn", .int st'.turn)])) c (.lst (st'.cells.map V.int))) : StOk ⟨some (s, c), cl⟩ st' H' := by
  obtain ⟨ne, h2, h3⟩ := h
  subst e
  exact ⟨ne, by rw [upd_ne ne, upd_same], upd_same⟩
structure Blt (mg : Str → Option Value) : Prop where
  len : mg "len" = none
  range : mg "range" = none
  tuple : mg "tuple" = none
  list : mg "list" = none
  min : mg "min" = none
  max : mg "max" = none
  sum : mg "sum" = none
  all : mg "all" = none
  any : mg "any" = none
  int : mg "int" = none
  bool : mg "bool" = none
  str : mg "str" = none
  dict : mg "dict" = none
  set : mg "set" = none
  sorted : mg "sorted" = none
  isinstance : mg "isinstance" = none
  enumerate : mg "enumerate" = none
  zip : mg "zip" = none
  reversed : mg "reversed" = none
  divmod : mg "divmod" = none
  abs : mg "abs" = none
  ValueError : mg "ValueError" = none
def spLaw (K : PySem.W.Frag) : Sp := fun vs H Q _ => ∃ (a : Addr) (ns : List Int), vs = [.ref a] ∧ SqL K H a (ns.map V.int) ∧ ns.length ≤ 63 ∧ HLen H ∧ ∀ H', Q (.bl true) H'
def spBegin (K : PySem.W.Frag) : Sp := fun vs H Q _ => ∃ (a : Addr) (ns : List Int), vs = [.ref a] ∧ SqL K H a (ns.map V.int) ∧ ns.length ≤ 63 ∧ HLen H ∧
  ∀ s c H', s ≠ c → H' s = some (.dK [(.inr "cells", .ref c), (.inr "turn", .int 0)]) → H' c = some (.lst ((cellsF ns).map V.int)) → HLen H' → Q (.ref s) H'
def cSL (cl : Str → Addr) (W : WX) (f : En → Out Fl) : TS := fun D' σ H => ∃ H0 rs M, cS { H0 := H0, S := ⟨rs, cl⟩, M := M, W := W } f D' σ H
theorem law_rest {X : Cx} {cl : Str → Addr} {W : WX} {st : List Stmt} {f : En → Out Fl} (h : ∀ H0 rs M, PSs X st (cS { H0 := H0, S := ⟨rs, cl⟩, M := M, W := W } f)) : PSs X st (cSL cl W f) := ⟨fun pins s σ H D' I ⟨H0, rs, M, q⟩ => (h H0 rs M).run pins s σ H D' I q⟩
theorem law_start {cl : Str → Addr} {W : WX} {N : List Str} {k : Nat} {v0 : V} {s c : Addr} {H' : Hp} {ns : List Int} (hN : N.length = k + 2) (ne : s ≠ c) (h1 : H' s = some (.dK [(.inr "cells", .ref c), (.inr "turn", .int 0)])) (h2 : H' c = some (.lst ((cellsF ns).map V.int))) (hl : HLen H') :
    R { H0 := H', S := ⟨some (s, c), cl⟩, M := [s, c], W := W } [] ⟨.no :: .sh .rs :: List.replicate k .no, ⟨cellsF ns, 0⟩⟩ ((L2.start N [v0]).set 1 (some (.ref s))) H' [] := by
  refine ⟨by simp [L2.start, hN], .inl rfl, .inl rfl, ⟨fun _ => [], (fun j d v z => by simp at z), fun i sv z => ?_, fun _ => List.nodup_nil, (fun _ _ _ z => nomatch z), (fun _ _ z => nomatch z)⟩, (fun _ _ z => nomatch z), (fun a z => z), ?_, ⟨ne, h1, h2⟩, (fun _ _ z _ => z), (fun _ z => nomatch z), hl, (fun _ z => nomatch z), (fun _ _ z => nomatch z)⟩
  · match i, z with
    | 0, z => cases z; trivial
    | 1, z =>
      cases z
      refine ⟨.ref s, ?_, .rs rfl⟩
      rw [Bs.loc_L rfl]
      rw [List.getElem?_set_self]
      simp [L2.start, hN]
    | i + 2, z =>
      rw [List.getElem?_cons_succ, List.getElem?_cons_succ, List.getElem?_replicate] at z
      split at z
      · cases z; trivial
      · cases z
  · intro a ha
    rcases List.mem_cons.mp ha with rfl | ha
    · exact ⟨_, h1, by intro vs; nofun⟩
    · rw [List.mem_singleton.mp ha]; exact ⟨_, h2, by intro vs; nofun⟩
end Fw

namespace Fw
open PySem PySem.Spec PyProof.Rows L2
section
variable {X : Cx} {B : Bs} {T ts : Tm} {ρ : En} {σ : L2.St} {H : Hp} {F : List Addr} {ps : List Opd} {ds : List D} {vs : List V} {Q : VK} {d d1 d2 d3 : D} {e a b c tg o : Expr} {f g fe fk : En → Out D} {pos p p2 pos' pos2 : Pos} {pa pb pc : Opd}
theorem R.part {d d' : D} {v v' : V} (h : R B (T ++ [(d, v)]) ρ σ H F) (k : ∀ {Hs : Hp} {G : List Addr}, (∀ b o, Hs b = some o → H b = some o) → Rp B.S H Hs d v G → G.Nodup → ∃ G', Rp B.S H Hs d' v' G' ∧ G'.Nodup ∧ ∀ x ∈ G', x ∈ G) : R B (T ++ [(d', v')]) ρ σ H F := by
  obtain ⟨fp, p⟩ := h.pt
  obtain ⟨G', r', nd', sub⟩ := k (fun b o e => (hid_some e).2) (p.tm T.length d v (by simp)) (p.nd _)
  refine { h with pt := ⟨fpSet fp (.inl T.length) G', ⟨fun j d2 v2 e => ?_, fun i s e => ?_, fun i => ?_, fun i j a hi hj => ?_, fun i a hi => ?_⟩⟩ }
  · rcases last_get e with ⟨hj, e⟩ | ⟨ej, e⟩
    · rw [fpSet_ne (by intro z; cases z; exact Nat.lt_irrefl _ hj)]
      exact p.tm j _ _ (by rw [List.getElem?_append_left hj]; exact e)
    · cases e; rw [ej, fpSet_same]; exact r'
  · rw [fpSet_ne (by intro z; cases z)]; exact p.sl i s e
  · by_cases q : i = .inl T.length
    · rw [q, fpSet_same]; exact nd'
    · rw [fpSet_ne q]; exact p.nd i
  · have up : ∀ i, a ∈ fpSet fp (.inl T.length) G' i → a ∈ fp i := fun i hi => by
      by_cases q : i = .inl T.length
      · rw [q, fpSet_same] at hi; rw [q]; exact sub a hi
      · rwa [fpSet_ne q] at hi
    exact p.ap i j a (up i hi) (up j hj)
  · by_cases q : i = .inl T.length
    · rw [q, fpSet_same] at hi; exact p.sub _ a (sub a hi)
    · rw [fpSet_ne q] at hi; exact p.sub i a hi
theorem RpL.part {S : Gs} {H Hs : Hp} : ∀ {ds : List D} {vs : List V} {F : List Addr} {i : Nat} {d : D}, RpL S H Hs ds vs F → F.Nodup → ds[i]? = some d → ∃ v G, vs[i]? = some v ∧ Rp S H Hs d v G ∧ G.Nodup ∧ ∀ a ∈ G, a ∈ F
  | _, _, _, 0, _, .cons h r, n, e => by
    simp at e; subst e
    exact ⟨_, _, rfl, h, (List.nodup_append.mp n).1, fun a ha => List.mem_append_left _ ha⟩
  | _, _, _, i + 1, d, .cons h r, n, e => by
    obtain ⟨v, G, h1, h2, h3, h4⟩ := RpL.part (i := i) (d := d) r (List.nodup_append.mp n).2.1 (by simpa using e)
    exact ⟨v, G, by simpa using h1, h2, h3, fun a ha => List.mem_append_right _ (h4 a ha)⟩
def itemsD : D → Option (List D)
  | .lst _ xs => some xs
  | .tup xs => some xs
  | _ => none
theorem itemsD_rp {S : Gs} {Hs : Hp} {xs : List D} {v : V} {G : List Addr} (hs : ∀ b o, Hs b = some o → H b = some o) (r : Rp S H Hs d v G) (e : itemsD d = some xs) (n : G.Nodup) :
    ∃ a vs G', v = .ref a ∧ (H a = some (.lst vs) ∨ H a = some (.tup vs)) ∧ RpL S H Hs xs vs G' ∧ G'.Nodup ∧ ∀ x ∈ G', x ∈ G := by
  cases r <;> simp [itemsD] at e <;> subst e
  · rename_i h r; exact ⟨_, _, [], rfl, .inl (hs _ _ h), r, List.nodup_nil, fun _ z => nomatch z⟩
  · rename_i h r; exact ⟨_, _, _, rfl, .inl h, r, (List.nodup_cons.mp n).2, fun _ z => List.mem_cons_of_mem _ z⟩
  · rename_i h r; exact ⟨_, _, _, rfl, .inr (hs _ _ h), r, n, fun _ z => z⟩
def evIxT (f g : En → Out D) : En → Out D := fun ρ => (f ρ).bind fun d ρ1 => (g ρ1).bind fun j ρ2 => match itemsD d, j with
  | some xs, .int i => match atI xs i with
    | some x => .ok x ρ2
    | none => .no
  | _, _ => .no
theorem R.topRp {v : V} (h : R B (T ++ [(d, v)]) ρ σ H F) : ∃ Hs G, (∀ b o, Hs b = some o → H b = some o) ∧ Rp B.S H Hs d v G ∧ G.Nodup := by
  obtain ⟨fp, p⟩ := h.pt
  exact ⟨_, _, fun b o e => (hid_some e).2, p.tm T.length d v (by simp), p.nd _⟩
theorem R.partIx {xs : List D} {v : V} {i : Int} {x : D} (h : R B (T ++ [(d, v)]) ρ σ H F) (e : itemsD d = some xs) (ei : atI xs i = some x) :
    ∃ a vs w, v = .ref a ∧ (H a = some (.lst vs) ∨ H a = some (.tup vs)) ∧ xs.length = vs.length ∧ atI vs i = some w ∧ R B (T ++ [(x, w)]) ρ σ H F := by
  obtain ⟨Hs, G, hs, r, n⟩ := h.topRp
  obtain ⟨a, vs, G', ev, ha, rl, n', sub⟩ := itemsD_rp hs r e n
  unfold atI at ei
  obtain ⟨j, h1, h2⟩ := Option.bind_eq_some_iff.mp ei
  obtain ⟨w, G2, h3, h4, _, _⟩ := rl.part n' h2
  have hw : atI vs i = some w := by unfold atI; rw [← rl.length, h1]; exact h3
  refine ⟨a, vs, w, ev, ha, rl.length, hw, h.part fun {Hs2 Gx} hs2 r2 n2 => ?_⟩
  obtain ⟨a2, vs2, G3, ev2, ha2, rl2, n3, sub3⟩ := itemsD_rp hs2 r2 e n2
  rw [ev] at ev2; cases ev2
  have evs : vs2 = vs := by
    rcases ha with ha | ha <;> rcases ha2 with ha2 | ha2 <;> rw [ha] at ha2 <;> cases ha2 <;> rfl
  subst evs
  obtain ⟨w2, G4, k1, k2, k3, k4⟩ := rl2.part n3 h2
  rw [h3] at k1; cases k1
  exact ⟨G4, k2, k3, fun x hx => sub3 x (k4 x hx)⟩
theorem ev_ixT (ha : PE X a (cE B f)) (hb : PE X b (cE B g)) (hs : PlainIx b) : PE X (.Subscript a b pos) (cE B (evIxT f g)) :=
  (pe_ix ix_seq ha hb hs).imp fun σ H Q ⟨T, ρ, F, r, q⟩ => by
    refine ⟨T, ρ, F, r, Out.wp_mono (Out.wp_bind q) (fun d ρ1 q v H1 F1 r1 => ?_) fun _ _ z => z⟩
    refine ⟨T ++ [(d, v)], ρ1, F1, r1, Out.wp_mono (Out.wp_bind q) (fun j ρ2 q w H2 F2 r2 => ?_) fun x ρ2 z cls dd H F xr r => z cls dd H F xr r.drop⟩
    split at q
    · rename_i xs i ed
      split at q
      · rename_i x ex
        obtain ⟨_, r3⟩ := top_rp r2
        cases r3.int
        obtain ⟨a, vs, w, rfl, hh, hl, hw, r4⟩ := (r2.drop1).partIx ed ex
        have fin := q w H2 F2 r4
        rcases hh with hh | hh
        · exact .inl ⟨a, vs, i, w, rfl, rfl, SqL.of hh, hw, fin⟩
        · exact .inr (.inl ⟨a, vs, i, w, rfl, rfl, SqT.of hh, hw, fin⟩)
      · exact q.elim
    · exact q.elim
def rgC (i c : Int) (n : Nat) : List D := (List.range n).map fun k => .int (i + (k : Nat) * c)
def itRgC (ps : List Opd) : En → Out (List D) := fun ρ => (evOps ps ρ).bind fun ds ρ' => match ds with
  | [.int i, .int j, .int (-1)] => if rgOk j i = true then .ok (rgC i (-1) (i - j).toNat) ρ' else .no
  | _ => .no
theorem itok_rangeC {lo c : Int} {n : Nat} (hz : n ≤ sizeLine) : ItOk B (Itc lo c n) (rgC lo c n) [] := by
  refine ⟨by simpa [rgC] using hz, fun T T2 ρ σ H F r i => ⟨fun hi => (show n ≤ i by simpa [rgC] using hi), fun d ed => ?_⟩⟩
  unfold rgC at ed
  rw [List.getElem?_map] at ed
  by_cases hi : i < n
  · rw [List.getElem?_range hi] at ed
    cases ed
    refine ⟨hi, fun x H' ⟨eH, ex⟩ => ?_⟩
    subst eH; subst ex
    exact ⟨F, r.push (.int _)⟩
  · rw [List.getElem?_eq_none (by simpa using hi)] at ed; cases ed
theorem ei_range3 (hg : Gl X "range") (hm : X.mg "range" = none) (ha : PE X a (tOpd B pa)) (hb : PE X b (tOpd B pb)) (hc : PE X c (tOpd B pc)) (h1 : starEach [a, b, c] X.env = [(false, eval a X.env), (false, eval b X.env), (false, eval c X.env)] := by rfl) (h2 : starEach [b, c] X.env = [(false, eval b X.env), (false, eval c X.env)] := by rfl) (h3 : starEach [c] X.env = [(false, eval c X.env)] := by rfl) :
    PI X tg (.Call (.Name "range" p) [a, b, c] [] pos) (cI B (itRgC [pa, pb, pc])) :=
  (pi_range3 hg hm (pa_cons ha (pa_cons hb (pa_cons hc pa_nil h3) (by rw [h2, h3])) (by rw [h1, h2])) (by rw [h1, h2]) (by rw [h2]; rfl)).imp fun σ H Rr ⟨T, ρ, F, r, q⟩ => by
    refine ops_run (ps := [pa, pb, pc]) r (Out.wp_mono (Out.wp_bind q) (fun ds ρ' q vs H' F' ts r' o => ?_) fun _ _ z => z)
    split at q
    · split at q
      · rename_i hk
        obtain ⟨v1, v2, v3, G1, G2, G3, rfl, r1, r2, r3⟩ := o.three r'
        obtain ⟨k1, k2, k3, k4, k5⟩ := rgOk_iff hk
        exact ⟨_, _, _, _, by rw [r1.int, r2.int, r3.int], RgC.neg k3 k4 k1 k2, q _ H' F' [] (by rw [List.append_nil]; exact r'.drop) (itok_rangeC k5)⟩
      · exact q.elim
    · exact q.elim
theorem R.mutOut {i : Nat} {d d' x : D} {w : V} {a : Addr} {o : HO} (h : R B T ρ σ H F) (e : ρ.vs[i]? = some (.ow d)) (ev : B.loc σ i = some (some (.ref a)))
    (mk : ∀ {Hs : Hp} {G : List Addr}, (∀ b o, Hs b = some o → H b = some o) → Rp B.S H Hs d (.ref a) G → G.Nodup →
      ∃ G' Gx, (∀ y ∈ G', y ∈ G) ∧ (∀ y ∈ Gx, y ∈ G) ∧ (∀ y ∈ G', y ∉ Gx) ∧ G'.Nodup ∧ Gx.Nodup ∧ a ∈ G ∧ ∀ {H' : Hp}, H' a = some o → (∀ b u, b ≠ a → H b = some u → H' b = some u) → Rp B.S H' Hs d' (.ref a) G' ∧ Rp B.S H' Hs x w Gx)
    (ho : ∀ vs, o = .lst vs ∨ o = .tup vs → vs.length ≤ sizeLine) :
    R B (T ++ [(x, w)]) { ρ with vs := ρ.vs.set i (.ow d') } σ (upd H a o) F := by
  obtain ⟨fp, p⟩ := h.pt
  obtain ⟨v, ev', r⟩ := (show RpV _ _ _ (.ow d) _ _ from p.sl i _ e)
  rw [ev] at ev'; cases ev'
  obtain ⟨G', Gx, hG', hGx, cross, nd', ndx, haG, mk⟩ := mk (fun _ _ z => (hid_some z).2) r (p.nd _)
  have haF : a ∈ F := p.sub _ _ haG
  have hh : hid (B.M ++ F) (upd H a o) = hid (B.M ++ F) H := hid_upd (List.mem_append_right _ haF)
  have ne : ∀ b u, b ≠ a → H b = some u → upd H a o b = some u := fun b u n q => by rw [upd_ne n]; exact q
  have haM : a ∉ B.M := fun z => h.dj a z haF
  have nea : ∀ j, j ≠ .inr i → ∀ x ∈ fp j, x ≠ a := fun j hj x hx z => by
    subst z
    exact hj (p.ap _ _ x hx haG)
  have key : ∀ j y, y ∈ fpSet (fpSet fp (.inl T.length) Gx) (.inr i) G' j → (j = .inr i ∧ y ∈ G') ∨ (j = .inl T.length ∧ y ∈ Gx) ∨ (j ≠ .inr i ∧ j ≠ .inl T.length ∧ y ∈ fp j) := by
    intro j y hy
    by_cases q : j = .inr i
    · rw [q, fpSet_same] at hy; exact .inl ⟨q, hy⟩
    · rw [fpSet_ne q] at hy
      by_cases q2 : j = .inl T.length
      · rw [q2, fpSet_same] at hy; exact .inr (.inl ⟨q2, hy⟩)
      · rw [fpSet_ne q2] at hy; exact .inr (.inr ⟨q, q2, hy⟩)
  refine { h with len := by simp [h.len], pt := ⟨fpSet (fpSet fp (.inl T.length) Gx) (.inr i) G', ⟨fun j d1 v1 q => ?_, fun j s q => ?_, fun j => ?_, fun j l y hj hl => ?_, fun j y hj => ?_⟩⟩, obj := Bs.obj_mono h.obj fun h1 h2 u q => ne _ _ (by rintro rfl; exact haM h1) q, md := fun b hb => ?_, st := h.st.mono fun b hb u q => ?_, ext := fun b u q n => ?_, hl := h.hl.upd ho, own := fun b hb => ?_ }
  · rw [fpSet_ne (by intro z; cases z), hh]
    rcases last_get q with ⟨hj, q⟩ | ⟨ej, q⟩
    · rw [fpSet_ne (by intro z; cases z; exact Nat.lt_irrefl _ hj)]
      exact (p.tm j _ _ q).mono (fun x hx u z => ne x u (nea _ (by intro z; cases z) x hx) z) fun _ _ z => z
    · cases q
      rw [ej, fpSet_same]
      exact (mk upd_same ne).2
  · rw [hh]
    rcases getElem?_set' q with ⟨rfl, rfl⟩ | ⟨nj, q⟩
    · rw [fpSet_same]
      exact ⟨_, ev, (mk upd_same ne).1⟩
    · rw [fpSet_ne (by intro z; cases z; exact nj rfl), fpSet_ne (by intro z; cases z)]
      exact (p.sl j s q).mono (fun x hx u z => ne x u (nea _ (by intro z; cases z; exact nj rfl) x hx) z) fun _ _ z => z
  · by_cases q : j = .inr i
    · rw [q, fpSet_same]; exact nd'
    · rw [fpSet_ne q]
      by_cases q2 : j = .inl T.length
      · rw [q2, fpSet_same]; exact ndx
      · rw [fpSet_ne q2]; exact p.nd _
  · rcases key j y hj with ⟨ej, kj⟩ | ⟨ej, kj⟩ | ⟨ej, ej2, kj⟩ <;> rcases key l y hl with ⟨el, kl⟩ | ⟨el, kl⟩ | ⟨el, el2, kl⟩
    · rw [ej, el]
    · exact absurd kl (cross y kj)
    · exact absurd (p.ap _ _ y kl (hG' y kj)) el
    · exact absurd kj (cross y kl)
    · rw [ej, el]
    · exact absurd (p.ap _ _ y kl (hGx y kj)) el
    · exact absurd (p.ap _ _ y kj (hG' y kl)) ej
    · exact absurd (p.ap _ _ y kj (hGx y kl)) ej
    · exact p.ap _ _ y kj kl
  · rcases key j y hj with ⟨ej, kj⟩ | ⟨ej, kj⟩ | ⟨ej, ej2, kj⟩
    · exact p.sub _ _ (hG' y kj)
    · exact p.sub _ _ (hGx y kj)
    · exact p.sub _ _ kj
  · by_cases q : b = a
    · subst q; exact absurd hb haM
    · exact (h.md b hb).to (upd_ne q)
  · rw [upd_ne (by rintro rfl; exact haM (h.sM b hb))]; exact q
  · rw [upd_ne (by rintro rfl; rw [h.new b haF] at q; cases q)]; exact h.ext b u q n
  · by_cases q : b = a
    · rw [q, upd_same]; simp
    · rw [upd_ne q]; exact h.own b hb
theorem RpL.take1 {S : Gs} {H Hs : Hp} : ∀ {ds : List D} {vs : List V} {F : List Addr} {k : Nat} {d : D}, RpL S H Hs ds vs F → F.Nodup → ds[k]? = some d →
    ∃ v G' Gx, vs[k]? = some v ∧ (∀ y ∈ G', y ∈ F) ∧ (∀ y ∈ Gx, y ∈ F) ∧ (∀ y ∈ G', y ∉ Gx) ∧ G'.Nodup ∧ Gx.Nodup ∧ RpL S H Hs (ds.eraseIdx k) (vs.eraseIdx k) G' ∧ Rp S H Hs d v Gx
  | _, _, _, 0, _, .cons (F := F1) (G := F2) h r, n, e => by
    simp at e; subst e
    obtain ⟨n1, n2, n3⟩ := List.nodup_append.mp n
    exact ⟨_, F2, F1, rfl, fun y hy => List.mem_append_right _ hy, fun y hy => List.mem_append_left _ hy, fun y hy hy2 => n3 y hy2 y hy rfl, n2, n1, r, h⟩
  | _, _, _, k + 1, d, .cons (F := F1) (G := F2) h r, n, e => by
    obtain ⟨n1, n2, n3⟩ := List.nodup_append.mp n
    obtain ⟨v, G', Gx, h1, h2, h3, h4, h5, h6, h7, h8⟩ := RpL.take1 (k := k) (d := d) r n2 (by simpa using e)
    refine ⟨v, F1 ++ G', Gx, by simpa using h1, fun y hy => ?_, fun y hy => List.mem_append_right _ (h3 y hy), fun y hy => ?_, List.nodup_append.mpr ⟨n1, h5, fun x hx y hy => n3 x hx y (h2 y hy)⟩, h6, .cons h h7, h8⟩
    · rcases List.mem_append.mp hy with hy | hy
      · exact List.mem_append_left _ hy
      · exact List.mem_append_right _ (h2 y hy)
    · rcases List.mem_append.mp hy with hy | hy
      · exact fun z => n3 y hy y (h3 y z) rfl
      · exact h4 y hy
theorem R.popAt {i k : Nat} {x : D} (h : R B T ρ σ H F) (e : ρ.vs[i]? = some (.ow (.lst true ds))) (ek : ds[k]? = some x) :
    ∃ a vs w, B.loc σ i = some (some (.ref a)) ∧ H a = some (.lst vs) ∧ vs.length = ds.length ∧ vs[k]? = some w ∧ R B (T ++ [(x, w)]) { ρ with vs := ρ.vs.set i (.ow (.lst true (ds.eraseIdx k))) } σ (upd H a (.lst (vs.eraseIdx k))) F := by
  obtain ⟨fp, p⟩ := h.pt
  obtain ⟨v, ev, r⟩ := (show RpV _ _ _ (.ow (.lst true ds)) _ _ from p.sl i _ e)
  generalize hG : fp (.inr i) = G0 at r
  cases r with
  | @lstO a vs _ F0 ha rl =>
    have n0 : F0.Nodup := by
      have := p.nd (.inr i)
      rw [hG] at this
      exact (List.nodup_cons.mp this).2
    obtain ⟨w, _, _, hw, _⟩ := rl.take1 n0 ek
    refine ⟨a, vs, w, ev, ha, rl.length.symm, hw, h.mutOut e ev (fun {Hs G} hs r n => ?_) (by
      intro us eu
      rcases eu with eu | eu <;> cases eu
      exact Nat.le_trans (List.length_eraseIdx_le ..) (h.hl _ _ (.inl ha)))⟩
    cases r with
    | @lstO _ vs2 _ F1 ha2 rl2 =>
      rw [ha] at ha2; cases ha2
      obtain ⟨na, n1⟩ := List.nodup_cons.mp n
      obtain ⟨w2, G', Gx, h1, h2, h3, h4, h5, h6, h7, h8⟩ := rl2.take1 n1 ek
      rw [hw] at h1; cases h1
      have naG : a ∉ G' := fun z => na (h2 a z)
      have naX : a ∉ Gx := fun z => na (h3 a z)
      refine ⟨a :: G', Gx, fun y hy => ?_, fun y hy => List.mem_cons_of_mem _ (h3 y hy), fun y hy => ?_, List.nodup_cons.mpr ⟨naG, h5⟩, h6, List.mem_cons_self, fun {H'} ha' kk => ⟨.lstO ha' (h7.mono (fun y hy u q => kk y u (by rintro rfl; exact naG hy) q) fun _ _ z => z), h8.mono (fun y hy u q => kk y u (by rintro rfl; exact naX hy) q) fun _ _ z => z⟩⟩
      · rcases List.mem_cons.mp hy with rfl | hy
        · exact List.mem_cons_self
        · exact List.mem_cons_of_mem _ (h2 y hy)
      · rcases List.mem_cons.mp hy with rfl | hy
        · exact naX
        · exact h4 y hy
def evPopAt (i : Nat) (f : En → Out D) : En → Out D := fun ρ => match ρ.vs[i]? with
  | some (.ow (.lst true _)) => (f ρ).bind fun j ρ1 => match ρ1.vs[i]?, j with
    | some (.ow (.lst true ds)), .int k => if 0 ≤ k ∧ k < ds.length ∧ ds.length < 2 ^ 62 then match ds[k.toNat]? with
      | some x => .ok x { ρ1 with vs := ρ1.vs.set i (.ow (.lst true (ds.eraseIdx k.toNat))) }
      | none => .no
      else .no
    | _, _ => .no
  | _ => .no
theorem ev_popAt {i : Nat} (h : PE X e (tBM X.K "list" rPopAt (tL B i) (tCons (cE B f) tNil))) : PE X e (cE B (evPopAt i f)) := h.imp fun σ H Q ⟨T, ρ, F, rr, q⟩ => by
  unfold evPopAt at q
  split at q
  · rename_i ds0 e0
    obtain ⟨a0, vs0, ev0, ha0⟩ := own_lst rr e0
    refine ⟨_, ev0, rr.at, tyv_lst ha0, T, ρ, F, rr, Out.wp_mono (Out.wp_bind q) (fun j ρ1 q v H1 F1 r1 => ?_) fun _ _ z => z⟩
    show rPopAt (.ref a0) [v] H1 Q
    split at q
    · rename_i ds k e1
      split at q
      · rename_i hk
        split at q
        · rename_i x ex
          obtain ⟨_, rj⟩ := top_rp r1
          cases rj.int
          obtain ⟨a, vs, w, ev, ha, hl, hw, r'⟩ := (r1.drop1).popAt e1 ex
          rw [ev0] at ev; cases ev
          refine ⟨_, vs, k, k.toNat, w, rfl, rfl, ha, by omega, by omega, ?_, hw, q w _ F1 r'⟩
          rw [hl]
          unfold seqIndex?
          simp only [if_neg (show ¬ k < 0 by omega)]
          rw [if_pos (by simp only [Bool.and_eq_true, decide_eq_true_eq]; omega)]
        · exact q.elim
      · exact q.elim
    · exact q.elim
  · exact q.elim
end
end Fw

namespace Fw
open PySem PySem.Spec PyProof.Rows L2
section
variable {X : Cx} {B : Bs} {T ts : Tm} {ρ : En} {σ : L2.St} {H : Hp} {F : List Addr} {ps : List Opd} {ds : List D} {vs : List V} {Q : VK} {d d1 d2 d3 : D} {e a b c tg o : Expr} {f g h fe fk : En → Out D} {pos p p2 pos' pos2 : Pos} {pa pb pc : Opd}
def evChI (c1 c2 : Int → Int → Bool) (f g h : En → Out D) : En → Out D := fun ρ => (f ρ).bind fun x ρ1 => (g ρ1).bind fun y ρ2 => match x, y with
  | .int i, .int j => if c1 i j = true then (h ρ2).bind fun z ρ3 => match z with
      | .int k => .ok (.bl (c2 j k)) ρ3
      | _ => .no
    else .ok (.bl false) ρ2
  | _, _ => .no
theorem ch_run {c1 c2 : Int → Int → Bool} (T : Tm) (ρ : En) (F : List Addr) (r : R B T ρ σ H F) {Q : VK} (q : (evChI c1 c2 f g h ρ).wp (fun d ρ' => ∀ v H' F', R B (T ++ [(d, v)]) ρ' σ H' F' → Q v H') (exQ B T σ)) : tChain (rI0 fun i j => .bl (c1 i j)) (rI0 fun i j => .bl (c2 i j)) (cE B f) (cE B g) (cE B h) σ H Q := by
  refine ⟨T, ρ, F, r, Out.wp_mono (Out.wp_bind q) (fun x ρ1 q v H1 F1 r1 => ?_) fun _ _ z => z⟩
  refine ⟨T ++ [(x, v)], ρ1, F1, r1, Out.wp_mono (Out.wp_bind q) (fun y ρ2 q w H2 F2 r2 => ?_) fun x ρ2 z cls dd H F xr r => z cls dd H F xr r.drop⟩
  split at q
  · rename_i i j _
    obtain ⟨_, ry⟩ := top_rp r2
    obtain ⟨_, rx⟩ := top_rp r2.drop1
    cases ry.int; cases rx.int
    refine ⟨i, j, rfl, rfl, c1 i j, rfl, ?_⟩
    cases hc : c1 i j with
    | true =>
      rw [hc, if_pos rfl] at q
      rw [if_pos rfl]
      refine ⟨T, ρ2, F2, r2.drop1.drop1, Out.wp_mono (Out.wp_bind q) (fun z ρ3 q u H3 F3 r3 => ?_) fun _ _ z => z⟩
      split at q
      · obtain ⟨_, rz⟩ := top_rp r3
        cases rz.int
        exact ⟨_, _, rfl, rfl, q _ _ F3 (r3.drop1.push (.bl _))⟩
      · exact q.elim
    | false =>
      rw [hc, if_neg (by simp)] at q
      rw [if_neg (by simp)]
      exact q _ _ F2 (r2.drop1.drop1.push (.bl _))
  · exact q.elim
theorem ev_ch {op op' : CmpOp} {c1 c2 : Int → Int → Bool} (ho : OpR X (compareOp op) (rI0 fun i j => .bl (c1 i j))) (ho' : OpR X (compareOp op') (rI0 fun i j => .bl (c2 i j))) (ha : PE X a (cE B f)) (hb : PE X b (cE B g)) (hc : PE X c (cE B h))
    (hm : lastMarks [op, op'] [b, c] = false := by with_unfolding_all rfl) : PE X (.Compare a [op, op'] [b, c] pos) (cE B (evChI c1 c2 f g h)) :=
  (pe_chain ho ho' ha hb hc hm).imp fun σ H Q ⟨T, ρ, F, r, q⟩ => ch_run T ρ F r q
def sPar (i j : Nat) (f g : En → Out D) : En → Out Fl := fun ρ => (f ρ).bind fun x ρ1 => (g ρ1).bind fun y ρ2 => .ok .nx { ρ2 with vs := (ρ2.vs.set j (mkSv y)).set i (mkSv x) }
theorem es_par {i j : Nat} {x y : Str} {px py pt : Pos} {kt k2 pt2} (hN : X.N.Nodup) (ha : PE X a (cE B f)) (hb : PE X b (cE B g)) (hc : X.calm = true := by rfl) (hi : X.N[i]? = some x := by rfl) (hj : X.N[j]? = some y := by rfl) (hij : i ≠ j := by decide)
    (hx : X.env.scope.names.lookup x = some .local := by rfl) (hy : X.env.scope.names.lookup y = some .local := by rfl)
    (h1 : starEach [a, b] X.env = (false, eval a X.env) :: starEach [b] X.env := by rfl) (h2 : starEach [b] X.env = (false, eval b X.env) :: starEach [] X.env := by rfl)
    (hw : swappedStores [.Tuple [.Name x px, .Name y py] kt pt] (.Tuple [a, b] k2 pt2) X.env = pure (some [x, y]) := by rfl)
    (hs : swapsWithSole [.Tuple [.Name x px, .Name y py] kt pt] (.Tuple [a, b] k2 pt2) pos.line X.env = pure false := by rfl) (hmi : B.free [i] = true := by rfl) (hmj : B.free [j] = true := by rfl) :
    PS X (.Assign [.Tuple [.Name x px, .Name y py] kt pt] (.Tuple [a, b] k2 pt2) pos) (cS B (sPar i j f g)) :=
  (ps_par hc hN hi hj hij hx hy (pa_cons ha (pa_cons hb pa_nil h2) h1) hw hs).imp fun D' σ H ⟨T, ρ, F, r, q⟩ => by
    refine ⟨T, ρ, F, r, Out.wp_mono (Out.wp_bind q) (fun x ρ1 q v H1 F1 r1 => ?_) fun _ _ z => exS z⟩
    refine ⟨T ++ [(x, v)], ρ1, F1, r1, Out.wp_mono (Out.wp_bind q) (fun y ρ2 q w H2 F2 r2 => ?_) fun x ρ2 z cls dd H F xr r => exS z cls dd H F xr r.drop⟩
    refine ⟨_, _, rfl, ?_⟩
    rw [List.set_comm _ _ hij]
    exact q _ _ _ ((r2.store (i := j) hmj).store hmi)
def sAug (i : Nat) (k : Int → Int → Int) (f : En → Out D) : En → Out Fl := fun ρ => match ρ.vs[i]? with
  | some (.sh (.int x)) => (f ρ).bind fun y ρ1 => match y with
    | .int j => .ok .nx { ρ1 with vs := ρ1.vs.set i (mkSv (.int (k x j))) }
    | _ => .no
  | _ => .no
theorem es_aug {i : Nat} {k : Int → Int → Int} {o' : Operator} (h : PS X (.AugAssign a o' e pos) (tAug i (cE B f) (ipI k))) (hme : B.free [i] = true := by rfl) : PS X (.AugAssign a o' e pos) (cS B (sAug i k f)) := h.imp fun D' σ H ⟨T, ρ, F, r, q⟩ => by
  unfold sAug at q
  split at q
  · rename_i x0 e0
    obtain ⟨v, ev, r'⟩ := r.read e0
    obtain ⟨_, rv⟩ := top_rp r'
    cases rv.int
    rw [Bs.loc_L (Bs.free2 hme)] at ev
    refine ⟨_, ev, T, ρ, F, r, Out.wp_mono (Out.wp_bind q) (fun y ρ1 q w H1 F1 r1 => ?_) fun _ _ z => exS z⟩
    split at q
    · obtain ⟨_, rw⟩ := top_rp r1
      cases rw.int
      exact ⟨_, _, rfl, rfl, q _ _ _ ((r1.drop1.push (.int _)).store hme)⟩
    · exact q.elim
  · exact q.elim
def evGet2 (i : Nat) (fk fe : En → Out D) : En → Out D := fun ρ => match ρ.vs[i]?.bind Sv.get? with
  | some (.dk _ _ _) => (fk ρ).bind fun k ρ1 => (fe ρ1).bind fun x ρ2 => match ρ2.vs[i]?.bind Sv.get? with
    | some (.dk _ ks xs) => match keyD k with
      | some q => match getD ks xs q with
        | some y => if shr y = true then .ok y ρ2 else .no
        | none => .ok x ρ2
      | none => .no
    | _ => .no
  | _ => .no
def pairsD : List D → Option (List (Key × D))
  | [] => some []
  | .tup [k, x] :: ds => (keyD k).bind fun q => (pairsD ds).map ((q, x) :: ·)
  | _ => none
def mergeD (ps : List (Key × D)) (ks : List Key) (xs : List D) : List Key × List D := match ps with
  | [] => (ks, xs)
  | (q, x) :: ps => mergeD ps (putKs ks q) (putXs ks xs q x)
theorem pairsD_rp {K : PySem.W.Frag} {S : Gs} {Hs : Hp} (hs : ∀ b o, Hs b = some o → H b = some o) : ∀ {xs : List D} {vs : List V} {ps : List (Key × D)}, RpL S H Hs xs vs [] → pairsD xs = some ps →
    ∃ (as : List Addr) (kvs : List (Key × V)), vs = as.map V.ref ∧ Paired (fun p kv => SqT K H p [kV kv.1, kv.2]) as kvs ∧ ps.map (·.1) = kvs.map (·.1) ∧ RpL S H Hs (ps.map (·.2)) (kvs.map (·.2)) []
  | [], vs, ps, r, e => by
    cases r; cases e
    exact ⟨[], [], rfl, .nil, rfl, .nil⟩
  | d :: xs, [], ps, r, e => by cases r
  | d :: xs, v :: vs, ps, r, e => by
    obtain ⟨r1, r2⟩ := r.cons_nil
    unfold pairsD at e
    split at e
    · rename_i hh; cases hh
    · rename_i k x ds ex
      cases ex
      obtain ⟨q, ek, e⟩ := Option.bind_eq_some_iff.mp e
      obtain ⟨ps', e', rfl⟩ := Option.map_eq_some_iff.mp e
      obtain ⟨as, kvs, h1, h2, h3, h4⟩ := pairsD_rp (K := K) hs r2 e'
      generalize eG : ([] : List Addr) = G at r1
      cases r1 with
      | @tup a ws _ _ ha rl =>
        subst eG
        match ws, rl, rl.length with
        | [v1, v2], rl, _ =>
          obtain ⟨k1, k2⟩ := rl.cons_nil
          obtain ⟨k2, _⟩ := k2.cons_nil
          refine ⟨a :: as, (q, v2) :: kvs, by rw [h1]; rfl, .cons ?_ h2, by simp [h3], .cons0 k2 h4⟩
          rw [show kV (q, v2).1 = v1 from (keyD_rp k1 ek).symm]
          exact SqT.of (hs _ _ ha)
    · cases e
theorem mergeD_rp {S : Gs} {Hs : Hp} : ∀ {ps : List (Key × D)} {kvs : List (Key × V)} {acc : List (Key × V)} {xs : List D}, ps.map (·.1) = kvs.map (·.1) → RpL S H Hs (ps.map (·.2)) (kvs.map (·.2)) [] → (acc.map (·.1)).Nodup → RpL S H Hs xs (acc.map (·.2)) [] →
    (mergeD ps (acc.map (·.1)) xs).1 = (mergeK acc kvs).map (·.1) ∧ RpL S H Hs (mergeD ps (acc.map (·.1)) xs).2 ((mergeK acc kvs).map (·.2)) []
  | [], [], acc, xs, _, _, _, r => ⟨rfl, r⟩
  | [], _ :: _, acc, xs, h, _, _, r => by simp at h
  | _ :: _, [], acc, xs, h, _, _, r => by simp at h
  | (q, x) :: ps, (q2, v) :: kvs, acc, xs, h, rl, nd, r => by
    simp only [List.map_cons, List.cons.injEq] at h
    obtain ⟨h1, h2⟩ := h
    subst h1
    rw [List.map_cons, List.map_cons] at rl
    obtain ⟨r1, r2⟩ := rl.cons_nil
    obtain ⟨G', rp, sub, _⟩ := put_rp (q := q) r1 List.nodup_nil nd r List.nodup_nil (fun _ z => nomatch z)
    have : G' = [] := List.eq_nil_iff_forall_not_mem.mpr fun a ha => (sub a ha).elim (fun z => nomatch z) (fun z => nomatch z)
    subst this
    have nd' : ((putK acc q v).map (·.1)).Nodup := by
      rw [put_keys]
      unfold putKs
      split
      · exact nd
      · rename_i hn
        rw [List.nodup_append]
        refine ⟨nd, by simp, fun y hy z hz => ?_⟩
        simp at hz
        subst hz
        rintro rfl
        exact hn (List.any_eq_true.mpr ⟨y, hy, by simp⟩)
    have ih := mergeD_rp (ps := ps) (kvs := kvs) (acc := putK acc q v) h2 r2 nd' rp
    rw [put_keys] at ih
    exact ih
theorem R.newK {ks : List Key} {xs : List D} {kvs : List (Key × V)} {p : Addr} (h : R B T ρ σ H F) (hk : ks = kvs.map (·.1)) (r : RpL B.S H (hid (B.M ++ F) H) xs (kvs.map (·.2)) []) (hp : H p = none) : R B (T ++ [(.dk true ks xs, .ref p)]) ρ σ (upd H p (.dK kvs)) (p :: F) := by
  have hl := r.length
  have := (h.pushL r).make (keep := true) (o := .dK kvs) (d := .dk true ks xs) hp (by intro vs e; rcases e with e | e <;> cases e) fun e1 _ r => by
    rw [if_pos rfl, hk]
    rw [zip_fst hl, zip_snd hl] at r
    exact .dkO e1 r
  rw [if_pos rfl] at this
  exact this
end
end Fw

namespace Fw
open PySem PySem.Spec PyProof.Rows L2
section
variable {X : Cx} {B : Bs} {T ts : Tm} {ρ : En} {σ : L2.St} {H : Hp} {F : List Addr} {d : D} {v : V} {pos : Pos}
def keyE : Key → D
  | .inl i => .int i
  | .inr s => .str s
inductive EP (X : Cx) (B : Bs) (pos : Pos) : List (Option Expr) → List Expr → List ((En → Out D) × (En → Out D)) → Prop
  | nil : EP X B pos [] [] []
  | cons {k v : Expr} {ks : List (Option Expr)} {vs : List Expr} {fk fv : En → Out D} {ps : List ((En → Out D) × (En → Out D))} (hk : PE X k (cE B fk)) (hv : PE X v (cE B fv)) (r : EP X B pos ks vs ps) : EP X B pos (some k :: ks) (v :: vs) ((fk, fv) :: ps)
theorem EP.run {ks : List (Option Expr)} {vs : List Expr} {ps : List ((En → Out D) × (En → Out D))} (h : EP X B pos ks vs ps) : PPs X pos ks vs (ps.map fun p => (cE B p.1, cE B p.2)) := by
  induction h with
  | nil => exact pps_nil
  | cons hk hv r ih => exact pps_cons hk hv ih
end
end Fw

namespace Fw
open PySem PySem.Spec PyProof.Rows L2
section
variable {X : Cx} {B : Bs} {T ts : Tm} {ρ : En} {σ : L2.St} {H : Hp} {F : List Addr} {d : D} {v : V} {pos pos' : Pos} {e iter : Expr} {t : D → En → Option En} {fe : En → Out D}
theorem R.putBack {i : Nat} (h : R B (T ++ [(d, v)] ++ ts) ρ σ H F) (ei : ρ.vs[i]? = some .no) (ev : B.loc σ i = some (some v)) : R B (T ++ ts) { ρ with vs := ρ.vs.set i (.ow d) } σ H F := by
  obtain ⟨fp, p⟩ := h.pt
  have hl := h.len
  let w : Ix → Ix := fun j => match j with
    | .inl j => if j < T.length then .inl j else .inl (j + 1)
    | .inr k => if k = i then .inl T.length else .inr k
  have winj : ∀ i j, w i = w j → i = j := by
    intro i j e
    cases i <;> cases j <;> simp only [w] at e <;> split at e <;> split at e <;> first | (cases e; done) | (injection e with e; congr 1 <;> omega) | (congr 1 <;> omega)
  refine { len := by simp [hl], fol := h.fol, obj := h.obj, pin := h.pin, pt := ⟨fun j => fp (w j), ⟨fun j d' v' e => ?_, fun k s e => ?_, fun j => p.nd _, fun i j a hi hj => winj _ _ (p.ap _ _ a hi hj), fun i a hi => p.sub _ a hi⟩⟩, dj := h.dj, sM := h.sM, md := h.md, st := h.st, ext := h.ext, new := h.new, hl := h.hl, own := h.own }
  · by_cases hj : j < T.length
    · simp only [w, if_pos hj]
      refine p.tm j d' v' ?_
      rw [List.getElem?_append_left hj] at e
      rw [List.append_assoc, List.getElem?_append_left hj]; exact e
    · simp only [w, if_neg hj]
      refine p.tm (j + 1) d' v' ?_
      rw [List.getElem?_append_right (by omega)] at e
      rw [List.getElem?_append_right (by simp; omega)]
      rw [show j + 1 - (T ++ [(d, v)]).length = j - T.length by simp]; exact e
  · rcases getElem?_set' e with ⟨rfl, rfl⟩ | ⟨nj, e⟩
    · simp only [w, if_pos rfl]
      exact ⟨v, ev, p.tm T.length d v (by simp)⟩
    · have nk : k ≠ i := fun z => nj z.symm
      simp only [w, if_neg nk]
      exact p.sl k s e
variable {elt : Expr} {ifs : List Expr} {scope : Scope} {own : List (Str × Nat)} {fc : En → Out Bool}
end
end Fw

namespace Fw
open PySem PySem.Spec PyProof.Rows L2
open AutoSeq1 (wpAny_loadPart') in
theorem meets_enT (l : Addr) (items : Array Value) (n : Nat) (dct : Option Addr) (sl : Array (Option Value)) :
    Meets (Builtin.«enumerate.__new__» ⟨[.type "enumerate", .ref l], []⟩) (fun _ R s => s.heap.get? l = some { cls := .type "tuple", dict := dct, data := .seq items n, slots := sl } ∧
      R (.ok (.ret (.ref (s.heap.push { cls := .type "tuple_iterator", data := .fields #[.ref l, .int 0 0] }).objs.size)))
        { s with heap := (s.heap.push { cls := .type "tuple_iterator", data := .fields #[.ref l, .int 0 0] }).push { cls := .type "enumerate", data := .fields #[.none, .bool false, .ref s.heap.objs.size, rawInt 0, .none, .none] } }) :=
  .of_wp fun prog w A R s h => by
    obtain ⟨hp, g, d, tk, os⟩ := s
    obtain ⟨hl, h⟩ := h
    have sub := sub_enumerate
    have isT : Heap.IsTuple (Shared.heap ⟨hp, g, d, tk, os⟩) l items := ⟨_, hl, rfl, n, rfl⟩
    wp_walk using wpAny_loadPart' hl
    refine wpAny_stack_any fun st => wpAny_pure ?_
    split
    · rename_i c _ _ _ _ _
      cases (c == Value.type "enumerate") <;> (wp_walk using wpAny_loadPart' hl, wpAny_pyIter_tuple isT; exact ⟨_, rfl, h⟩)
    · wp_walk using wpAny_loadPart' hl, wpAny_pyIter_tuple isT
      exact ⟨_, rfl, h⟩
section
variable {P : Program} {w : World} {A : Around} {E : Value → Shared → Prop} {s : Shared}
theorem call_enT {l : Addr} {items : Array Value} {Q : Value → Shared → Prop} (ht : s.heap.IsTuple l items)
    (k : ∀ g : Heap, IsEnum g (s.heap.objs.size + 1) s.heap.objs.size 0 .none → g.IsTupleIter s.heap.objs.size l 0 → (∀ b o, s.heap.get? b = some o → g.get? b = some o) → Q (.ref (s.heap.objs.size + 1)) { s with heap := g }) :
    wpAny (model P w) A (call (.type "enumerate") [.ref l]) Q E s := by
  obtain ⟨⟨c, dct, dt, sl⟩, hl, ec, n, ed⟩ := ht
  dsimp only at ec ed
  subst ec
  subst ed
  refine callType_new F.called_enumerate (by decide) (F.typeCall_enumerate_1 _) (F.newCall_enumerate_1 _) (fun obj => F.args_object_init_2 obj _) F.entry_enumerate_new (meets_enT l items n dct sl) ⟨hl, ?_⟩
  have z1 : (s.heap.push { cls := .type "tuple_iterator", data := .fields #[.ref l, .int 0 0] }).objs.size = s.heap.objs.size + 1 := Heap.size_push ..
  show _ ∧ _
  rw [z1]
  have en : IsEnum ((s.heap.push { cls := .type "tuple_iterator", data := .fields #[.ref l, .int 0 0] }).push { cls := .type "enumerate", data := .fields #[.none, .bool false, .ref s.heap.objs.size, rawInt 0, .none, .none] }) (s.heap.objs.size + 1) s.heap.objs.size 0 .none := by
    have z2 := Heap.get?_push_size (s.heap.push { cls := .type "tuple_iterator", data := .fields #[.ref l, .int 0 0] }) (o := { cls := .type "enumerate", data := .fields #[.none, .bool false, .ref s.heap.objs.size, rawInt 0, .none, .none] }) rfl
    rwa [z1] at z2
  exact ⟨⟨_, en, rfl⟩, k _ en ⟨_, Heap.get?_push_of_some _ (Heap.get?_push_size _ rfl), rfl, rfl⟩ fun b o x => Heap.get?_push_of_some _ (Heap.get?_push_of_some _ x)⟩
end
def ItTe (K : PySem.W.Frag) (a : Addr) : It :=
  ⟨fun i H => ∃ (xs : List V) (x : V), SqT K H a xs ∧ xs[i]? = some x, fun i H v H' => ∃ T x, v = .ref T ∧ H T = none ∧ H' = upd H T (.tup [.int (i : Nat), x]) ∧ ∀ xs, SqT K H a xs → xs[i]? = some x, fun i H => ∃ xs : List V, SqT K H a xs ∧ xs.length ≤ i⟩
theorem turn_enT {P : Program} {w : World} {K : PySem.W.Frag} {elts : List Expr} {kk : Nat} {tpos : Pos} (a e it : Addr) :
    Turn P w K (.Tuple elts kk tpos) (ItTe K a) [e, it] e (fun i h => (∃ old, IsEnum h e it ((i : Nat) : Int) old) ∧ h.IsTupleIter it a i ∧ e ≠ it ∧ a ≠ it ∧ e ≠ a) where
  mem := by simp
  obj := fun i h ⟨⟨old, he⟩, ⟨o, ho, _, hd⟩, _⟩ b hb => by
    rcases (show b = e ∨ b = it by simpa using hb) with rfl | rfl
    · exact ⟨_, he, fun v q => nomatch q⟩
    · exact ⟨o, ho, fun v q => by rw [hd] at q; cases q⟩
  keep := fun i h h' ⟨⟨old, he⟩, hi, ne⟩ k => ⟨⟨old, k e (by simp) _ he⟩, hi.at fun o q => k it (by simp) o q, ne⟩
  item := by
    intro X hP hw hK hc i pins s σ H E I hf ⟨⟨old, he⟩, hit, n1, n2, n3⟩ ⟨xs, x, hq, hx⟩
    subst hP hw hK
    obtain ⟨its, rv, p, hz⟩ := I.tuple hq
    obtain ⟨u, hu, ru⟩ := rv.get hx
    have lt1 : e < s.heap.objs.size := Heap.lt_size he
    have lt2 : it < s.heap.objs.size := by obtain ⟨_, q, _⟩ := hit; exact Heap.lt_size q
    have hi : i < its.toArray.size := by rw [List.size_toArray]; exact (List.getElem?_eq_some_iff.mp hu).1
    refine wpAny_pyNext_enum_itemD (Draws.tuple (A := X.A.in1) (I.ok.hd hc) it a n2 its.toArray) he ⟨hit, p⟩ hi n1 (by simp [n1, n3]) fun y h' tk hy ho ⟨hit', p'⟩ hT hsz hk => ?_
    have ey : y = u := by
      have h1 : its[i]? = some y := by simpa using hy
      rw [hu] at h1; exact (Option.some.inj h1).symm
    subst ey
    refine ⟨_, rfl, wpAny_letOwnedTupleGo_enum (s := { s with heap := h', toks := tk + 1 }) ho fun h'' he' sb => ?_⟩
    have hT2 : h''.get? s.heap.objs.size = some { cls := .type "tuple", data := .seq #[.int i tk, y] } := (sb.2 _ (Nat.ne_of_gt lt1)).trans hT
    have new : ObjOk X.prog X.w (upd H s.heap.objs.size (.tup [.int (i : Nat), x])) h'' s.heap.objs.size (.tup [.int (i : Nat), x]) :=
      ⟨by show 2 ≤ sizeLine; decide, [.int i tk, y], .cons ⟨_, rfl⟩ (.cons ru .nil), ⟨_, hT2, rfl, _, rfl⟩⟩
    have J : Inv X pins σ (upd H s.heap.objs.size (.tup [.int (i : Nat), x])) { s with heap := h'', toks := tk + 1 } :=
      I.turnedNew (ch := [e, it]) (fun b ob hb q => (sb.2 b fun z => hb (by simp [z])).trans (hk b ob (fun z => hb (by simp [z])) (fun z => hb (by simp [z])) q)) hf (Nat.le_refl _) new
    refine ⟨.ref s.heap.objs.size, _, J, rfl, ⟨_, x, rfl, I.hok.fresh (Nat.le_refl _), rfl, fun ys hy => by rw [I.tuple_inj hy hq]; exact hx⟩, ⟨⟨y, ?_⟩, hit'.at fun o q => (sb.2 it (Ne.symm n1)).trans q, n1, n2, n3⟩, fun b hb => ?_⟩
    · rw [show ((i + 1 : Nat) : Int) = (i : Int) + 1 by omega]; exact he'
    · have lt : b < s.heap.objs.size := by
        rcases (show b = e ∨ b = it by simpa using hb) with z | z
        · rw [z]; exact lt1
        · rw [z]; exact lt2
      rw [upd_ne (Nat.ne_of_lt lt)]
      exact (hf b hb).1
  done := by
    intro X hP hw hK hc i pins s σ H E I hf ⟨⟨old, he⟩, hit, n1, n2, n3⟩ ⟨xs, hq, hx⟩
    subst hP hw hK
    obtain ⟨its, rv, p, hz⟩ := I.tuple hq
    obtain ⟨f0, f1, f2, f3, f4, f5⟩ := hf it (by simp)
    have hl := rv.length
    have hT : s.TypeIs (.ref e) "enumerate" := ⟨_, he, rfl⟩
    unfold pyNext
    refine wpAny_bind (wpAny_attempt (wpAny_callSpecial?_slot (name := Str.ofString "__next__") hT PySem.F.slot_enumerate_next
      (wpAny_call_entry PySem.F.slot_enumerate_next hT PySem.F.entry_enumerate_next (show wpAny _ _ (field (.ref e) 2 >>= _) _ _ _ from wpAny_bind (wpAny_field he rfl (x := .ref it) rfl (wpAny_bind (wpAny_nextOf_tuple_end (I.ok.hd hc) hit p (by simp; omega) fun h' y he' hy => ?_)))) (PySem.F.args_enumerate_next_1 _))))
    obtain ⟨o, ho, hc'⟩ := hy
    refine wpAny_bind (wpAny_isInstance (T := "StopIteration") (b := true) ⟨o, ho, hc'⟩ isSubtype_stop (wpAny_pure ⟨rfl, I.turned (t' := s.toks) (fun b o hb q => he' b o hb q) f0 f1 f3 f4 f5⟩))
  self := fun A i s Q E ⟨⟨_, he⟩, _⟩ h => wpAny_pyIter_enum he h
def iEnT (K : PySem.W.Frag) (ta : TA) : TI := fun σ H R => ta σ H fun vs H1 => ∃ a xs, vs = [.ref a] ∧ ((SqL K H1 a xs ∧ R (Ite K a) H1) ∨ (SqT K H1 a xs ∧ R (ItTe K a) H1))
theorem pi_enA {X : Cx} {e : Expr} {ta : TA} {p pos tpos : Pos} {elts : List Expr} {kk : Nat} (hg : Gl X "enumerate") (hm : X.mg "enumerate" = none) (ha : PA X [e] ta) (hs : starEach [e] X.env = [(false, eval e X.env)] := by rfl) :
    PI X (.Tuple elts kk tpos) (.Call (.Name "enumerate" p) [e] [] pos) (iEnT X.K ta) := by
  refine ⟨fun pins s σ H R I h => Call_ (ld_blt I hg hm boot_enumerate (PyProof.Rows.callWith_type1 (thn (ha.run pos pins s σ H _ I h) fun us s1 ⟨vs, H1, I1, r1, q1⟩ => ?_) hs rfl))⟩
  obtain ⟨a, xs, ex, hq⟩ := q1
  subst ex
  cases r1 with
  | cons r rr =>
    cases rr
    cases r
    have fp : ∀ b ∈ [s1.heap.objs.size + 1, s1.heap.objs.size], FpOk X pins H1 b := fun b hb => by
      have le : s1.heap.objs.size ≤ b := by
        rcases (show b = s1.heap.objs.size + 1 ∨ b = s1.heap.objs.size by simpa using hb) with z | z <;> omega
      exact I1.fpOk le (I1.hok.fresh le)
    rcases hq with ⟨hq, q⟩ | ⟨hq, q⟩
    · obtain ⟨its, rv, p', hz⟩ := I1.list hq
      refine call_enumerate_list p'.isList fun h' he hit hsz hk => wpAny_pyIter_enum he ?_
      exact ⟨s1.heap.objs.size + 1, _, _, _, H1, rfl, I1.kept (t' := s1.toks) hk, turn_enum a (s1.heap.objs.size + 1) s1.heap.objs.size, ⟨⟨.none, he⟩, hit, Nat.succ_ne_self _⟩, fp, q⟩
    · obtain ⟨its, rv, p', hz⟩ := I1.tuple hq
      have lt := p'.lt
      refine call_enT p' fun h' he hit hk => wpAny_pyIter_enum he ?_
      exact ⟨s1.heap.objs.size + 1, _, _, _, H1, rfl, I1.kept (t' := s1.toks) hk, turn_enT a (s1.heap.objs.size + 1) s1.heap.objs.size, ⟨⟨.none, he⟩, hit, Nat.succ_ne_self _, Nat.ne_of_lt lt, Nat.ne_of_gt (Nat.lt_succ_of_lt lt)⟩, fp, q⟩
section
variable {X : Cx} {B : Bs} {T ts : Tm} {ρ : En} {σ : L2.St} {H : Hp} {F : List Addr} {d : D} {v : V} {pos pos' p : Pos} {e : Expr} {f : En → Out D}
theorem itok_enT {K : PySem.W.Frag} {a : Addr} {xs : List D} (hd : seqOf d = some (false, xs)) (hz : xs.length ≤ sizeLine) : ItOk B (ItTe K a) (enD 0 xs) [(d, .ref a)] := by
  refine ⟨by rw [enD_len]; exact hz, fun T T2 ρ σ H F r i => ?_⟩
  obtain ⟨G, rb⟩ := r.nth (n := 0) rfl
  obtain ⟨a', vs, e, ha, rl⟩ := seqOf_tp rb hd
  cases e
  refine ⟨fun hi => ⟨vs, SqT.of ha, by rw [← rl.length]; rw [enD_len] at hi; exact hi⟩, fun d ed => ?_⟩
  obtain ⟨x, hx, rfl⟩ := enD_get _ _ _ _ ed
  obtain ⟨v, hv, rv⟩ := rl.get0 hx
  refine ⟨⟨vs, v, SqT.of ha, hv⟩, fun y H' ⟨t, z, ey, ht, eH, hz⟩ => ?_⟩
  subst ey; subst eH
  have ez := hz vs (SqT.of ha)
  rw [hv] at ez; cases ez
  rw [Nat.zero_add]
  exact ⟨F, pair_push r ht (.int _) rv⟩
def itEnA (f : En → Out D) : En → Out (List D) := fun ρ => (f ρ).bind fun d ρ' => match seqOf d with
  | some p => .ok (enD 0 p.2) ρ'
  | none => .no
theorem ei_enA {elts : List Expr} {kk : Nat} {tpos : Pos} (hg : Gl X "enumerate") (hm : X.mg "enumerate" = none) (h : PE X e (cE B f)) (hs : starEach [e] X.env = [(false, eval e X.env)] := by rfl) :
    PI X (.Tuple elts kk tpos) (.Call (.Name "enumerate" p) [e] [] pos) (cI B (itEnA f)) := by
  refine (pi_enA hg hm (pa_cons h pa_nil hs) hs).imp fun σ H Rr ⟨T, ρ, F, r, q⟩ => ?_
  refine ⟨T, ρ, F, r, Out.wp_mono (Out.wp_bind q) (fun d ρ' q v H' F' r' => ?_) fun _ _ z => z⟩
  split at q
  · rename_i pr e1
    obtain ⟨b, xs⟩ := pr
    obtain ⟨G, rb⟩ := top_rp r'
    cases b with
    | true =>
      obtain ⟨a, vs, rfl, ha, rl⟩ := seqOf_lst rb e1
      exact ⟨a, vs, rfl, .inl ⟨SqL.of ha, q _ H' F' [(d, .ref a)] r' (itok_enum e1 (by rw [rl.length]; exact r'.hl _ _ (.inl ha)))⟩⟩
    | false =>
      obtain ⟨a, vs, rfl, ha, rl⟩ := seqOf_tp rb e1
      exact ⟨a, vs, rfl, .inr ⟨SqT.of ha, q _ H' F' [(d, .ref a)] r' (itok_enT e1 (by rw [rl.length]; exact r'.hl _ _ (.inr ha)))⟩⟩
  · exact q.elim
end
end Fw

namespace Fw
open PySem PySem.Spec PyProof.Rows L2
section
variable {X : Cx} {B : Bs} {T ts : Tm} {ρ : En} {σ : L2.St} {H : Hp} {F : List Addr} {d : D} {v : V} {pos pos' p : Pos} {e tg : Expr} {f : En → Out D}
def opIsNB : List D → Option D
  | [.bl a, .bl b] => some (.bl (!decide (a = b)))
  | _ => none
theorem opIsNB_S : OpS B (rr2 (fun x y H Q => ∃ a b, x = V.bl a ∧ y = V.bl b ∧ Q (.bl (!decide (a = b))) H)) opIsNB := by
  intro T ts ρ σ H F ps ds vs Q d h o e q
  unfold opIsNB at e
  split at e
  · cases e
    obtain ⟨v1, v2, G1, G2, rfl, r1, r2⟩ := o.two h
    cases r1.1
    cases r2.1
    exact ⟨_, _, rfl, rfl, q _ _ _ (h.drop.push (.bl _))⟩
  · cases e
end
end Fw

namespace Fw
open PySem PySem.Spec PyProof.Rows L2
section
variable {X : Cx} {B : Bs} {T ts : Tm} {ρ : En} {σ : L2.St} {H : Hp} {F : List Addr} {d : D} {v : V} {pos pos' p : Pos} {e tg iter : Expr} {f : En → Out D}
inductive Kv where
  | k (kvs : List (Key × V))
  | t (kvs : List (List Key × V))
def Kv.ho : Kv → HO
  | .k kvs => .dK kvs
  | .t kvs => .dT kvs
def Kv.dat (xs : List D) : Kv → D
  | .k kvs => .dk false (kvs.map (·.1)) xs
  | .t kvs => .dt false (kvs.map (·.1)) xs
def Kv.vals : Kv → List V
  | .k kvs => kvs.map (·.2)
  | .t kvs => kvs.map (·.2)
theorem Kv.ho_frz {u u2 : Kv} {o o2 : Obj} (h : HO.frz o u.ho = .frz o2 u2.ho) : u = u2 := by
  cases u <;> cases u2 <;> cases h <;> rfl
theorem Kv.ho_inj {u u2 : Kv} (h : u.ho = u2.ho) : u = u2 := by
  cases u <;> cases u2 <;> cases h <;> rfl
theorem Kv.ho_no {u u2 : Kv} {o : Obj} : u.ho ≠ .frz o u2.ho := by
  cases u <;> cases u2 <;> intro h <;> cases h
theorem Rp.swap {S : Gs} {H H' Hs Hs' : Hp} {a : Addr} {u0 : Kv} (kF : ∀ b o, b ≠ a → H b = some o → H' b = some o) (kS : ∀ b o, b ≠ a → Hs b = some o → Hs' b = some o)
    (ha : ∀ o, Hs a = some o → Rd Hs a u0.ho) (ha' : ∀ o, Hs a = some o → Rd Hs' a u0.ho) : (∀ {d : D} {v : V} {F : List Addr}, Rp S H Hs d v F → a ∉ F → Rp S H' Hs' d v F) ∧ ∀ {ds : List D} {vs : List V} {F : List Addr}, RpL S H Hs ds vs F → a ∉ F → RpL S H' Hs' ds vs F := by
  have rdu : ∀ {b : Addr} {u2 : Kv}, Rd Hs b u2.ho → Rd Hs' b u2.ho := fun {b u2} h => by
    by_cases c : b = a
    · subst c
      rcases h with h | ⟨o, h⟩
      · rcases ha _ h with h2 | ⟨o2, h2⟩
        · rw [h] at h2
          have := Kv.ho_inj (Option.some.inj h2)
          subst this
          exact ha' _ h
        · rw [h] at h2
          exact absurd (Option.some.inj h2) Kv.ho_no
      · rcases ha _ h with h2 | ⟨o2, h2⟩
        · rw [h] at h2
          exact absurd (Option.some.inj h2).symm Kv.ho_no
        · rw [h] at h2
          have := Kv.ho_frz (Option.some.inj h2)
          subst this
          exact ha' _ h
    · rcases h with h | ⟨o, h⟩
      · exact .inl (kS _ _ c h)
      · exact .inr ⟨o, kS _ _ c h⟩
  have dk : ∀ {b : Addr} {kvs2 : List (Key × V)}, Rd Hs b (.dK kvs2) → Rd Hs' b (.dK kvs2) := fun {b kvs2} h => rdu (u2 := .k kvs2) h
  have dt : ∀ {b : Addr} {kvs2 : List (List Key × V)}, Rd Hs b (.dT kvs2) → Rd Hs' b (.dT kvs2) := fun {b kvs2} h => rdu (u2 := .t kvs2) h
  have ot : ∀ {b : Addr} {u : HO}, Hs b = some u → (∀ k : Kv, u ≠ k.ho) → (∀ o (k : Kv), u ≠ .frz o k.ho) → Hs' b = some u := fun {b u} h n1 n2 => by
    by_cases c : b = a
    · subst c
      rcases ha _ h with h2 | ⟨o2, h2⟩
      · rw [h] at h2; exact absurd (Option.some.inj h2) (n1 _)
      · rw [h] at h2; exact absurd (Option.some.inj h2) (n2 _ _)
    · exact kS _ _ c h
  constructor
  · intro d v F r
    refine Rp.rec (motive_1 := fun d v F _ => a ∉ F → Rp S H' Hs' d v F) (motive_2 := fun ds vs F _ => a ∉ F → RpL S H' Hs' ds vs F) ?_ ?_ ?_ ?_ ?_ ?_ ?_ ?_ ?_ ?_ ?_ ?_ ?_ ?_ ?_ ?_ ?_ ?_ ?_ r
    · exact fun _ => .non
    · exact fun b _ => .bl b
    · exact fun b _ => .int b
    · exact fun b _ => .str b
    · exact fun h _ ih n => .lstS (ot h (by intro k; cases k <;> nofun) (by intro o k; cases k <;> nofun)) (ih n)
    · exact fun h _ ih n => .lstO (kF _ _ (fun z => n (z ▸ List.mem_cons_self)) h) (ih fun z => n (List.mem_cons_of_mem _ z))
    · exact fun h _ ih n => .tup (ot h (by intro k; cases k <;> nofun) (by intro o k; cases k <;> nofun)) (ih n)
    · exact fun h _ ih n => .dkS (dk h) (ih n)
    · exact fun h _ ih n => .dkO (kF _ _ (fun z => n (z ▸ List.mem_cons_self)) h) (ih fun z => n (List.mem_cons_of_mem _ z))
    · exact fun h _ ih n => .dtS (dt h) (ih n)
    · exact fun h _ ih n => .dtO (kF _ _ (fun z => n (z ▸ List.mem_cons_self)) h) (ih fun z => n (List.mem_cons_of_mem _ z))
    · exact fun h _ => .rs h
    · exact fun h _ ih n => .obS (ot h (by intro k; cases k <;> nofun) (by intro o k; cases k <;> nofun)) (ih n)
    · exact fun h _ ih n => .obO (kF _ _ (fun z => n (z ▸ List.mem_cons_self)) h) (ih fun z => n (List.mem_cons_of_mem _ z))
    · exact fun {a2 d C fvs ds} h hd r hz n => .ev (ot h (by intro k z; cases k <;> cases (show HO.ext _ = _ from z)) (by intro o k z; cases k <;> cases (show HO.ext _ = _ from z))) (by
        cases d with
        | none => exact hd
        | some dd => exact ot hd (by intro k; cases k <;> nofun) (by intro o k; cases k <;> nofun)) r hz
    · exact fun h _ => .tv (ot h (by intro k; cases k <;> nofun) (by intro o k; cases k <;> nofun))
    · exact fun h hd _ ih n => .tz (ot h (by intro k; cases k <;> nofun) (by intro o k z; cases k <;> (injection z with _ z; cases z))) hd (ih (fun z => nomatch z))
    · exact fun _ => .nil
    · exact fun _ _ ih1 ih2 n => .cons (ih1 fun z => n (List.mem_append_left _ z)) (ih2 fun z => n (List.mem_append_right _ z))
  · intro ds vs F r
    refine RpL.rec (motive_1 := fun d v F _ => a ∉ F → Rp S H' Hs' d v F) (motive_2 := fun ds vs F _ => a ∉ F → RpL S H' Hs' ds vs F) ?_ ?_ ?_ ?_ ?_ ?_ ?_ ?_ ?_ ?_ ?_ ?_ ?_ ?_ ?_ ?_ ?_ ?_ ?_ r
    · exact fun _ => .non
    · exact fun b _ => .bl b
    · exact fun b _ => .int b
    · exact fun b _ => .str b
    · exact fun h _ ih n => .lstS (ot h (by intro k; cases k <;> nofun) (by intro o k; cases k <;> nofun)) (ih n)
    · exact fun h _ ih n => .lstO (kF _ _ (fun z => n (z ▸ List.mem_cons_self)) h) (ih fun z => n (List.mem_cons_of_mem _ z))
    · exact fun h _ ih n => .tup (ot h (by intro k; cases k <;> nofun) (by intro o k; cases k <;> nofun)) (ih n)
    · exact fun h _ ih n => .dkS (dk h) (ih n)
    · exact fun h _ ih n => .dkO (kF _ _ (fun z => n (z ▸ List.mem_cons_self)) h) (ih fun z => n (List.mem_cons_of_mem _ z))
    · exact fun h _ ih n => .dtS (dt h) (ih n)
    · exact fun h _ ih n => .dtO (kF _ _ (fun z => n (z ▸ List.mem_cons_self)) h) (ih fun z => n (List.mem_cons_of_mem _ z))
    · exact fun h _ => .rs h
    · exact fun h _ ih n => .obS (ot h (by intro k; cases k <;> nofun) (by intro o k; cases k <;> nofun)) (ih n)
    · exact fun h _ ih n => .obO (kF _ _ (fun z => n (z ▸ List.mem_cons_self)) h) (ih fun z => n (List.mem_cons_of_mem _ z))
    · exact fun {a2 d C fvs ds} h hd r hz n => .ev (ot h (by intro k z; cases k <;> cases (show HO.ext _ = _ from z)) (by intro o k z; cases k <;> cases (show HO.ext _ = _ from z))) (by
        cases d with
        | none => exact hd
        | some dd => exact ot hd (by intro k; cases k <;> nofun) (by intro o k; cases k <;> nofun)) r hz
    · exact fun h _ => .tv (ot h (by intro k; cases k <;> nofun) (by intro o k; cases k <;> nofun))
    · exact fun h hd _ ih n => .tz (ot h (by intro k; cases k <;> nofun) (by intro o k z; cases k <;> (injection z with _ z; cases z))) hd (ih (fun z => nomatch z))
    · exact fun _ => .nil
    · exact fun _ _ ih1 ih2 n => .cons (ih1 fun z => n (List.mem_append_left _ z)) (ih2 fun z => n (List.mem_append_right _ z))
theorem R.swap {a : Addr} {o o' : HO} {u0 : Kv} {H0 : Hp} (h : R B T ρ σ H F) (ha : H a = some o) (ho : o = u0.ho ∨ ∃ x, o = .frz x u0.ho) (ho' : o' = u0.ho ∨ ∃ x, o' = .frz x u0.ho) (nF : a ∉ F) (nM : a ∉ B.M)
    (e0 : ∀ b u, b ≠ a → H0 b = some u → B.H0 b = some u) (ea : ∀ u, H0 a = some u → u = o') (n0 : ∀ b ∈ F, B.H0 b = none → H0 b = none) : R { B with H0 := H0 } T ρ σ (upd H a o') F := by
  obtain ⟨fp, p⟩ := h.pt
  have hh : a ∉ B.M ++ F := fun z => (List.mem_append.mp z).elim nM nF
  have rd : Rd (hid (B.M ++ F) H) a u0.ho := by
    rcases ho with rfl | ⟨x, rfl⟩
    · exact .inl (hid_of ha hh)
    · exact .inr ⟨x, hid_of ha hh⟩
  have rd' : Rd (hid (B.M ++ F) (upd H a o')) a u0.ho := by
    rcases ho' with rfl | ⟨x, rfl⟩
    · exact .inl (hid_of upd_same hh)
    · exact .inr ⟨x, hid_of upd_same hh⟩
  obtain ⟨k1, _⟩ := Rp.swap (S := B.S) (H := H) (H' := upd H a o') (Hs := hid (B.M ++ F) H) (Hs' := hid (B.M ++ F) (upd H a o')) (a := a) (u0 := u0) (fun b u n e => by rw [upd_ne n]; exact e) (fun b u n e => by
    obtain ⟨m, e⟩ := hid_some e
    exact hid_of (by rw [upd_ne n]; exact e) m) (fun _ _ => rd) (fun _ _ => rd')
  have nfp : ∀ i, a ∉ fp i := fun i z => nF (p.sub i a z)
  refine { h with obj := Bs.obj_mono h.obj fun h1 h2 u e => by rw [upd_ne (by rintro rfl; exact nM h1)]; exact e, pt := ⟨fp, { p with tm := fun j d v e => k1 (p.tm j d v e) (nfp _), sl := fun i s e => ?_ }⟩, md := fun b hb => ?_, st := h.st.mono fun b hb u e => ?_, ext := fun b u e n => ?_, new := fun b hb => n0 b hb (h.new b hb), hl := h.hl.upd ?_, own := fun b hb => ?_ }
  · have q := p.sl i s e
    cases s with
    | no => trivial
    | sh d => obtain ⟨v, ev, r⟩ := q; exact ⟨v, ev, k1 r (fun z => nomatch z)⟩
    | ow d => obtain ⟨v, ev, r⟩ := q; exact ⟨v, ev, k1 r (nfp _)⟩
  · exact (h.md b hb).to (upd_ne (by rintro rfl; exact nM hb))
  · rw [upd_ne (by rintro rfl; exact nM (h.sM b hb))]; exact e
  · by_cases c : b = a
    · subst c; rw [upd_same, ea _ e]
    · rw [upd_ne c]; exact h.ext b u (e0 b u c e) n
  · intro vs e
    rcases ho' with rfl | ⟨x, rfl⟩ <;> cases u0 <;> rcases e with e | e <;> cases e
  · rw [upd_ne (by rintro rfl; exact nF hb)]; exact h.own b hb
inductive KI where
  | keys | vals | items
def viewD : KI → D → Option (List D)
  | .keys, .dk _ ks _ => if ks.length ≤ sizeLine then some (ks.map keyE) else none
  | .keys, .dt _ ks _ => if ks.length ≤ sizeLine then some (ks.map fun k => .tup (k.map keyE)) else none
  | .vals, .dk _ ks xs => if xs.length ≤ sizeLine ∧ shrL xs = true then some xs else none
  | .items, .dk _ ks xs => if ks.length ≤ sizeLine ∧ shrL xs = true then some ((ks.zip xs).map fun p => .tup [keyE p.1, p.2]) else none
  | _, _ => none
def evLcD (κ : KI) (i : Nat) (t : D → En → Option En) (c : En → Out Bool) (elt : En → Out D) (own : List Nat) : En → Out D := fun ρ => (evVar i ρ).bind fun d ρ1 => match viewD κ d with
  | some ds => (noEx (lcL t c elt own ds { ρ1 with vs := fgt ρ1.vs own })).bind fun ys ρ2 => .ok (.lst true ys) ρ2
  | none => .no
variable {elt : Expr} {ifs : List Expr} {scope : Scope} {own : List (Str × Nat)} {fc : En → Out Bool} {fe : En → Out D}
end
end Fw

namespace Fw
open PySem PySem.Spec PyProof.Rows L2
def opSub : List D → Option D := opI2 yesC fun i j => i - j
theorem opSub_S {B : Bs} : OpS B (rr2 (rI0 fun i j => .int (i - j))) opSub := opI2_0
def opFd : List D → Option D := opI2 (fun _ j => decide (0 < j) && decide (j < 1073741824)) fun i j => i / j
theorem opFd_S {B : Bs} : OpS B (rr2 (rI CDiv fun i j => .int (i / j))) opFd := opI2_S fun i j h => by
  simp only [Bool.and_eq_true, decide_eq_true_eq] at h
  exact h
def opMd : List D → Option D := opI2 (fun _ j => decide (0 < j)) fun i j => i % j
theorem opMd_S {B : Bs} : OpS B (rr2 (rI (fun _ j => 0 < j) fun i j => .int (i % j))) opMd := opI2_S fun i j h => by simpa using h
def opLt : List D → Option D := opC2 fun i j => decide (i < j)
def opGt : List D → Option D := opC2 fun i j => decide (j < i)
def opGe : List D → Option D := opC2 fun i j => decide (j ≤ i)
theorem opLt_S {B : Bs} : OpS B (rr2 (rI0 fun i j => .bl (decide (i < j)))) opLt := opC2_S
theorem opGt_S {B : Bs} : OpS B (rr2 (rI0 fun i j => .bl (decide (j < i)))) opGt := opC2_S
theorem opGe_S {B : Bs} : OpS B (rr2 (rI0 fun i j => .bl (decide (j ≤ i)))) opGe := opC2_S
theorem dpInts {K : PySem.W.Frag} {H : Hp} : ∀ ns : List Int, DpAll K H (ns.map V.int) (ns.map PyData.int)
  | [] => .nil
  | n :: ns => .cons (.int n) (dpInts ns)
theorem depthAll_ints : ∀ ns : List Int, PyData.depthAll (ns.map PyData.int) = 0
  | [] => by simp [PyData.depthAll]
  | n :: ns => by simp [PyData.depthAll, PyData.depth, depthAll_ints ns]
theorem canLay_ints : ∀ ns : List Int, PyData.canLayAll0 (ns.map PyData.int) = true
  | [] => by simp [PyData.canLayAll0]
  | n :: ns => by simp [PyData.canLayAll0, PyData.canLay0, canLay_ints ns]
theorem shaped_ints (ns : List Int) : SeqAt.shaped (.list (ns.map PyData.int)) = true := by
  unfold SeqAt.shaped
  rw [PyData.canLay0, canLay_ints, PyData.depth, depthAll_ints]
  rfl
theorem eqv_nil (ns : List Int) : PyData.eqv (.list (ns.map PyData.int)) (.list []) = decide (ns = []) := by
  cases ns <;> simp [PyData.eqv, PyData.eqvAll]
theorem hlen_only {H : Hp} (h : Only H) : HLen H := fun a vs e => by
  rcases h a with z | ⟨o, xs, z⟩
  · rw [z] at e; rcases e with e | e <;> cases e
  · rw [z] at e; rcases e with e | e <;> cases e
theorem cx_no {P : Program} {w : World} {H : Hp} {s : Shared} {e : Value} {s' : Shared} (z : L2.CX P w [] H s (fun _ _ _ => False) e s') : False := by
  obtain ⟨_, _, _, _, _, _, _, _, _, _, _, _, z⟩ := z
  exact z
end Fw

namespace Fw
open PySem L2
def varK (i : Nat) (ρ : En) : Option Sv → Out D
  | some (.sh d) => .ok d ρ
  | some (.ow d) => .ok (frz d) { ρ with vs := ρ.vs.set i (.sh (frz d)) }
  | _ => .no
@[simp] theorem evVar_eq (i : Nat) (vs : List Sv) (st : RSt) : evVar i ⟨vs, st⟩ = varK i ⟨vs, st⟩ vs[i]? := by
  unfold evVar varK; rfl
@[simp] theorem varK_sh (i : Nat) (ρ : En) (d : D) : varK i ρ (some (.sh d)) = .ok d ρ := (rfl)
@[simp] theorem varK_ow (i : Nat) (vs : List Sv) (st : RSt) (d : D) : varK i ⟨vs, st⟩ (some (.ow d)) = .ok (frz d) ⟨vs.set i (.sh (frz d)), st⟩ := (rfl)
def movK (i : Nat) (ρ : En) : Option Sv → Out D
  | some (.sh d) => .ok d ρ
  | some (.ow d) => .ok d { ρ with vs := ρ.vs.set i .no }
  | _ => .no
@[simp] theorem evMove_eq (i : Nat) (vs : List Sv) (st : RSt) : evMove i ⟨vs, st⟩ = movK i ⟨vs, st⟩ vs[i]? := by
  unfold evMove movK; rfl
@[simp] theorem movK_sh (i : Nat) (ρ : En) (d : D) : movK i ρ (some (.sh d)) = .ok d ρ := (rfl)
@[simp] theorem movK_ow (i : Nat) (vs : List Sv) (st : RSt) (d : D) : movK i ⟨vs, st⟩ (some (.ow d)) = .ok d ⟨vs.set i .no, st⟩ := (rfl)
@[simp] theorem evC_eq (d : D) (ρ : En) : evC d ρ = .ok d ρ := (rfl)
@[simp] theorem evYes_eq (ρ : En) : evYes ρ = .ok true ρ := (rfl)
def opsK1 (ps : List Opd) : Out D → Out (List D)
  | .ok d ρ => (evOps ps ρ).bind fun ds ρ2 => .ok (d :: ds) ρ2
  | .ex x ρ => .ex x ρ
  | .no => .no
def opsK2 (d : D) : Out (List D) → Out (List D)
  | .ok ds ρ => .ok (d :: ds) ρ
  | .ex x ρ => .ex x ρ
  | .no => .no
def opsK3 (i : Nat) (ps : List Opd) (ρ : En) : Option D → Out (List D)
  | some _ => (evOps ps ρ).bind fun ds ρ2 => match ρ2.vs[i]?.bind Sv.get? with
      | some d => .ok (d :: ds) ρ2
      | none => .no
  | none => .no
def opsK4 (i : Nat) : Out (List D) → Out (List D)
  | .ok ds ρ2 => match ρ2.vs[i]?.bind Sv.get? with
      | some d => .ok (d :: ds) ρ2
      | none => .no
  | .ex x ρ => .ex x ρ
  | .no => .no
def opsK5 (ds : List D) (ρ : En) : Option D → Out (List D)
  | some d => .ok (d :: ds) ρ
  | none => .no
@[simp] theorem evOps_nil (ρ : En) : evOps [] ρ = .ok [] ρ := (rfl)
@[simp] theorem evOps_val (f : En → Out D) (ps : List Opd) (ρ : En) : evOps (.val f :: ps) ρ = opsK1 ps (f ρ) := by
  rw [evOps]; cases f ρ <;> rfl
@[simp] theorem opsK1_ok (ps : List Opd) (d : D) (ρ : En) : opsK1 ps (.ok d ρ) = opsK2 d (evOps ps ρ) := by
  rw [opsK1]; cases evOps ps ρ <;> rfl
@[simp] theorem opsK1_ex (ps : List Opd) (d : Exc) (ρ : En) : opsK1 ps (.ex d ρ) = .ex d ρ := (rfl)
@[simp] theorem opsK2_ok (d : D) (ds : List D) (ρ : En) : opsK2 d (.ok ds ρ) = .ok (d :: ds) ρ := (rfl)
@[simp] theorem opsK2_ex (d : D) (x : Exc) (ρ : En) : opsK2 d (.ex x ρ) = .ex x ρ := (rfl)
def opsI5 (j : Nat) (ds : List D) (ρ : En) : Option D → Out (List D)
  | some d => .ok (d :: ds) ρ
  | none => .no
def opsI4 (i j : Nat) : Out (List D) → Out (List D)
  | .ok ds ρ => opsI5 j ds ρ (itmD j ρ.vs[i]?)
  | .ex x ρ => .ex x ρ
  | .no => .no
def opsI3 (i j : Nat) (ps : List Opd) (ρ : En) : Option D → Out (List D)
  | some _ => opsI4 i j (evOps ps ρ)
  | none => .no
@[simp] theorem evOps_itm (i j : Nat) (ps : List Opd) (vs : List Sv) (st : RSt) : evOps (.itm i j :: ps) ⟨vs, st⟩ = opsI3 i j ps ⟨vs, st⟩ (itmD j vs[i]?) := by
  rw [evOps, opsI3.eq_def]
  cases itmD j vs[i]? with
  | none => rfl
  | some d =>
    simp only [opsI4.eq_def]
    cases evOps ps ⟨vs, st⟩ with
    | ok ds ρ => simp only [Out.bind, opsI5.eq_def]; try rfl
    | ex x ρ => rfl
    | no => rfl
@[simp] theorem opsI3_some (i j : Nat) (ps : List Opd) (ρ : En) (d : D) : opsI3 i j ps ρ (some d) = opsI4 i j (evOps ps ρ) := rfl
@[simp] theorem opsI4_ok (i j : Nat) (ds : List D) (vs : List Sv) (st : RSt) : opsI4 i j (.ok ds ⟨vs, st⟩) = opsI5 j ds ⟨vs, st⟩ (itmD j vs[i]?) := rfl
@[simp] theorem opsI4_ex (i j : Nat) (x : Exc) (ρ : En) : opsI4 i j (.ex x ρ) = .ex x ρ := rfl
@[simp] theorem opsI5_some (j : Nat) (ds : List D) (ρ : En) (d : D) : opsI5 j ds ρ (some d) = .ok (d :: ds) ρ := rfl
@[simp] theorem itmD_ow (j : Nat) (xs : List D) : itmD j (some (.ow (.tup xs))) = xs[j]? := rfl
@[simp] theorem itmD_sh (j : Nat) (xs : List D) : itmD j (some (.sh (.tup xs))) = xs[j]? := rfl
@[simp] theorem evOps_var (i : Nat) (ps : List Opd) (vs : List Sv) (st : RSt) : evOps (.var i :: ps) ⟨vs, st⟩ = opsK3 i ps ⟨vs, st⟩ (vs[i]?.bind Sv.get?) := by
  rw [evOps, opsK3.eq_def]; cases vs[i]?.bind Sv.get? <;> rfl
@[simp] theorem opsK3_some (i : Nat) (ps : List Opd) (ρ : En) (d : D) : opsK3 i ps ρ (some d) = opsK4 i (evOps ps ρ) := by
  rw [opsK3]; cases evOps ps ρ <;> rfl
@[simp] theorem opsK4_ok (i : Nat) (ds : List D) (vs : List Sv) (st : RSt) : opsK4 i (.ok ds ⟨vs, st⟩) = opsK5 ds ⟨vs, st⟩ (vs[i]?.bind Sv.get?) := by
  rw [opsK4, opsK5.eq_def]
  first | done | (cases vs[i]?.bind Sv.get? <;> rfl)
@[simp] theorem opsK4_ex (i : Nat) (x : Exc) (ρ : En) : opsK4 i (.ex x ρ) = .ex x ρ := (rfl)
@[simp] theorem opsK5_some (ds : List D) (ρ : En) (d : D) : opsK5 ds ρ (some d) = .ok (d :: ds) ρ := (rfl)
@[simp] theorem get_sh (d : D) : (Sv.sh d).get? = some d := (rfl)
@[simp] theorem get_ow (d : D) : (Sv.ow d).get? = some d := (rfl)
@[simp] theorem get_no : (Sv.no).get? = none := (rfl)
def opK (op : List D → Option D) : Out (List D) → Out D
  | .ok ds ρ => match op ds with
    | some d => .ok d ρ
    | none => .no
  | .ex x ρ => .ex x ρ
  | .no => .no
def odK (ρ : En) : Option D → Out D
  | some d => .ok d ρ
  | none => .no
@[simp] theorem evOp_eq (ps : List Opd) (op : List D → Option D) (ρ : En) : evOp ps op ρ = opK op (evOps ps ρ) := by
  rw [evOp]; cases evOps ps ρ <;> rfl
@[simp] theorem opK_ok (op : List D → Option D) (ds : List D) (ρ : En) : opK op (.ok ds ρ) = odK ρ (op ds) := by
  rw [opK, odK.eq_def]; first | done | (cases op ds <;> rfl)
@[simp] theorem opK_ex (op : List D → Option D) (x : Exc) (ρ : En) : opK op (.ex x ρ) = .ex x ρ := (rfl)
@[simp] theorem odK_some (ρ : En) (d : D) : odK ρ (some d) = .ok d ρ := (rfl)
def otK (op : List D → Option D) : Out (List D) → Out Bool
  | .ok ds ρ => match op ds with
    | some (.bl b) => .ok b ρ
    | _ => .no
  | .ex x ρ => .ex x ρ
  | .no => .no
def obK (ρ : En) : Option D → Out Bool
  | some (.bl b) => .ok b ρ
  | _ => .no
@[simp] theorem evTOp_eq (ps : List Opd) (op : List D → Option D) (ρ : En) : evTOp ps op ρ = otK op (evOps ps ρ) := by
  rw [evTOp]; cases evOps ps ρ <;> rfl
@[simp] theorem otK_ok (op : List D → Option D) (ds : List D) (ρ : En) : otK op (.ok ds ρ) = obK ρ (op ds) := by
  rw [otK, obK.eq_def]
@[simp] theorem obK_some (ρ : En) (b : Bool) : obK ρ (some (.bl b)) = .ok b ρ := (rfl)
def tK : Out D → Out Bool
  | .ok (.bl b) ρ => .ok b ρ
  | .ex x ρ => .ex x ρ
  | _ => .no
@[simp] theorem evT_eq (f : En → Out D) (ρ : En) : evT f ρ = tK (f ρ) := by
  rw [evT]; cases f ρ with
  | ok d ρ => cases d <;> rfl
  | _ => rfl
@[simp] theorem tK_ok (b : Bool) (ρ : En) : tK (.ok (.bl b) ρ) = .ok b ρ := (rfl)
@[simp] theorem tK_ex (x : Exc) (ρ : En) : tK (.ex x ρ) = .ex x ρ := (rfl)
def tnK : Out Bool → Out Bool
  | .ok b ρ => .ok (!b) ρ
  | .ex x ρ => .ex x ρ
  | .no => .no
@[simp] theorem evTNot_eq (f : En → Out Bool) (ρ : En) : evTNot f ρ = tnK (f ρ) := by
  rw [evTNot]; cases f ρ <;> rfl
@[simp] theorem tnK_ok (b : Bool) (ρ : En) : tnK (.ok b ρ) = .ok (!b) ρ := (rfl)
@[simp] theorem tnK_ex (x : Exc) (ρ : En) : tnK (.ex x ρ) = .ex x ρ := (rfl)
def taK (g : En → Out Bool) : Out Bool → Out Bool
  | .ok true ρ => g ρ
  | .ok false ρ => .ok false ρ
  | .ex x ρ => .ex x ρ
  | .no => .no
@[simp] theorem evTAnd_eq (f g : En → Out Bool) (ρ : En) : evTAnd f g ρ = taK g (f ρ) := by
  rw [evTAnd]; cases f ρ with
  | ok b ρ => cases b <;> rfl
  | _ => rfl
@[simp] theorem taK_t (g : En → Out Bool) (ρ : En) : taK g (.ok true ρ) = g ρ := (rfl)
@[simp] theorem taK_f (g : En → Out Bool) (ρ : En) : taK g (.ok false ρ) = .ok false ρ := (rfl)
def toK (g : En → Out Bool) : Out Bool → Out Bool
  | .ok true ρ => .ok true ρ
  | .ok false ρ => g ρ
  | .ex x ρ => .ex x ρ
  | .no => .no
@[simp] theorem evTOr_eq (f g : En → Out Bool) (ρ : En) : evTOr f g ρ = toK g (f ρ) := by
  rw [evTOr]; cases f ρ with
  | ok b ρ => cases b <;> rfl
  | _ => rfl
@[simp] theorem toK_t (g : En → Out Bool) (ρ : En) : toK g (.ok true ρ) = .ok true ρ := (rfl)
@[simp] theorem toK_f (g : En → Out Bool) (ρ : En) : toK g (.ok false ρ) = g ρ := (rfl)
def vaK (g : En → Out D) : Out D → Out D
  | .ok (.bl true) ρ => g ρ
  | .ok (.bl false) ρ => .ok (.bl false) ρ
  | .ex x ρ => .ex x ρ
  | _ => .no
@[simp] theorem evAnd_eq (f g : En → Out D) (ρ : En) : evAnd f g ρ = vaK g (f ρ) := by
  rw [evAnd]; cases f ρ with
  | ok d ρ => cases d <;> (try rfl); rename_i b; cases b <;> rfl
  | _ => rfl
@[simp] theorem vaK_t (g : En → Out D) (ρ : En) : vaK g (.ok (.bl true) ρ) = g ρ := (rfl)
@[simp] theorem vaK_f (g : En → Out D) (ρ : En) : vaK g (.ok (.bl false) ρ) = .ok (.bl false) ρ := (rfl)
def voK (g : En → Out D) : Out D → Out D
  | .ok (.bl true) ρ => .ok (.bl true) ρ
  | .ok (.bl false) ρ => g ρ
  | .ex x ρ => .ex x ρ
  | _ => .no
@[simp] theorem evOr_eq (f g : En → Out D) (ρ : En) : evOr f g ρ = voK g (f ρ) := by
  rw [evOr]; cases f ρ with
  | ok d ρ => cases d <;> (try rfl); rename_i b; cases b <;> rfl
  | _ => rfl
@[simp] theorem voK_t (g : En → Out D) (ρ : En) : voK g (.ok (.bl true) ρ) = .ok (.bl true) ρ := (rfl)
@[simp] theorem voK_f (g : En → Out D) (ρ : En) : voK g (.ok (.bl false) ρ) = g ρ := (rfl)
def vnK : Out D → Out D
  | .ok (.bl b) ρ => .ok (.bl (!b)) ρ
  | .ex x ρ => .ex x ρ
  | _ => .no
@[simp] theorem evNot_eq (f : En → Out D) (ρ : En) : evNot f ρ = vnK (f ρ) := by
  rw [evNot]; cases f ρ with
  | ok d ρ => cases d <;> rfl
  | _ => rfl
@[simp] theorem vnK_b (b : Bool) (ρ : En) : vnK (.ok (.bl b) ρ) = .ok (.bl (!b)) ρ := (rfl)
def eiK (f g : En → Out D) : Out Bool → Out D
  | .ok true ρ => f ρ
  | .ok false ρ => g ρ
  | .ex x ρ => .ex x ρ
  | .no => .no
@[simp] theorem evIf_eq (c : En → Out Bool) (f g : En → Out D) (ρ : En) : evIf c f g ρ = eiK f g (c ρ) := by
  rw [evIf]; cases c ρ with
  | ok b ρ => cases b <;> rfl
  | _ => rfl
@[simp] theorem eiK_t (f g : En → Out D) (ρ : En) : eiK f g (.ok true ρ) = f ρ := (rfl)
@[simp] theorem eiK_f (f g : En → Out D) (ρ : En) : eiK f g (.ok false ρ) = g ρ := (rfl)
@[simp] theorem eiK_x (f g : En → Out D) (x : Exc) (ρ : En) : eiK f g (.ex x ρ) = .ex x ρ := (rfl)
def tupK : Out (List D) → Out D
  | .ok ds ρ => .ok (.tup ds) ρ
  | .ex x ρ => .ex x ρ
  | .no => .no
def lstK : Out (List D) → Out D
  | .ok ds ρ => .ok (.lst true ds) ρ
  | .ex x ρ => .ex x ρ
  | .no => .no
@[simp] theorem evTup_eq (fs : List (En → Out D)) (ρ : En) : evTup fs ρ = tupK (evOps (fs.map Opd.val) ρ) := by
  rw [evTup]; cases evOps (fs.map Opd.val) ρ <;> rfl
@[simp] theorem evLst_eq (fs : List (En → Out D)) (ρ : En) : evLst fs ρ = lstK (evOps (fs.map Opd.val) ρ) := by
  rw [evLst]; cases evOps (fs.map Opd.val) ρ <;> rfl
@[simp] theorem tupK_ok (ds : List D) (ρ : En) : tupK (.ok ds ρ) = .ok (.tup ds) ρ := (rfl)
@[simp] theorem tupK_ex (x : Exc) (ρ : En) : tupK (.ex x ρ) = .ex x ρ := (rfl)
@[simp] theorem lstK_ok (ds : List D) (ρ : En) : lstK (.ok ds ρ) = .ok (.lst true ds) ρ := (rfl)
@[simp] theorem lstK_ex (x : Exc) (ρ : En) : lstK (.ex x ρ) = .ex x ρ := (rfl)
@[simp] theorem evNewK_eq (ρ : En) : evNewK ρ = .ok (.dk true [] []) ρ := (rfl)
def sqK (g : En → Out Fl) : Out Fl → Out Fl
  | .ok .nx ρ => g ρ
  | .ok (.rt d) ρ => .ok (.rt d) ρ
  | .ok .bk ρ => .ok .bk ρ
  | .ok .ct ρ => .ok .ct ρ
  | .ex x ρ => .ex x ρ
  | .no => .no
@[simp] theorem nxS_eq (ρ : En) : nxS ρ = .ok .nx ρ := (rfl)
@[simp] theorem sqS_eq (f g : En → Out Fl) (ρ : En) : sqS f g ρ = sqK g (f ρ) := by
  rw [sqS]; cases f ρ with
  | ok d ρ => cases d <;> rfl
  | _ => rfl
@[simp] theorem sqK_nx (g : En → Out Fl) (ρ : En) : sqK g (.ok .nx ρ) = g ρ := (rfl)
@[simp] theorem sqK_rt (g : En → Out Fl) (d : D) (ρ : En) : sqK g (.ok (.rt d) ρ) = .ok (.rt d) ρ := (rfl)
@[simp] theorem sqK_bk (g : En → Out Fl) (ρ : En) : sqK g (.ok .bk ρ) = .ok .bk ρ := (rfl)
@[simp] theorem sqK_ct (g : En → Out Fl) (ρ : En) : sqK g (.ok .ct ρ) = .ok .ct ρ := (rfl)
@[simp] theorem sqK_ex (g : En → Out Fl) (x : Exc) (ρ : En) : sqK g (.ex x ρ) = .ex x ρ := (rfl)
def retK : Out D → Out Fl
  | .ok d ρ => .ok (.rt d) ρ
  | .ex x ρ => .ex x ρ
  | .no => .no
@[simp] theorem sRet_eq (f : En → Out D) (ρ : En) : sRet f ρ = retK (f ρ) := by rw [sRet]; cases f ρ <;> rfl
@[simp] theorem retK_ok (d : D) (ρ : En) : retK (.ok d ρ) = .ok (.rt d) ρ := (rfl)
@[simp] theorem retK_ex (x : Exc) (ρ : En) : retK (.ex x ρ) = .ex x ρ := (rfl)
def dropK : Out D → Out Fl
  | .ok d ρ => .ok .nx ρ
  | .ex x ρ => .ex x ρ
  | .no => .no
@[simp] theorem sDrop_eq (f : En → Out D) (ρ : En) : sDrop f ρ = dropK (f ρ) := by rw [sDrop]; cases f ρ <;> rfl
@[simp] theorem dropK_ok (d : D) (ρ : En) : dropK (.ok d ρ) = .ok .nx ρ := (rfl)
@[simp] theorem dropK_ex (x : Exc) (ρ : En) : dropK (.ex x ρ) = .ex x ρ := (rfl)
def ifK (f g : En → Out Fl) : Out Bool → Out Fl
  | .ok true ρ => f ρ
  | .ok false ρ => g ρ
  | .ex x ρ => .ex x ρ
  | .no => .no
@[simp] theorem sIf_eq (c : En → Out Bool) (f g : En → Out Fl) (ρ : En) : sIf c f g ρ = ifK f g (c ρ) := by
  rw [sIf]; cases c ρ with
  | ok b ρ => cases b <;> rfl
  | _ => rfl
@[simp] theorem ifK_t (f g : En → Out Fl) (ρ : En) : ifK f g (.ok true ρ) = f ρ := (rfl)
@[simp] theorem ifK_f (f g : En → Out Fl) (ρ : En) : ifK f g (.ok false ρ) = g ρ := (rfl)
@[simp] theorem ifK_ex (f g : En → Out Fl) (x : Exc) (ρ : En) : ifK f g (.ex x ρ) = .ex x ρ := (rfl)
def asK (i : Nat) : Out D → Out Fl
  | .ok d ρ => .ok .nx { ρ with vs := ρ.vs.set i (mkSv d) }
  | .ex x ρ => .ex x ρ
  | .no => .no
@[simp] theorem sAs_eq (i : Nat) (f : En → Out D) (ρ : En) : sAs i f ρ = asK i (f ρ) := by rw [sAs]; cases f ρ <;> rfl
@[simp] theorem asK_ok (i : Nat) (d : D) (vs : List Sv) (st : RSt) : asK i (.ok d ⟨vs, st⟩) = .ok .nx ⟨vs.set i (mkSv d), st⟩ := (rfl)
@[simp] theorem asK_ex (i : Nat) (x : Exc) (ρ : En) : asK i (.ex x ρ) = .ex x ρ := (rfl)
@[simp] theorem mkSv_eq (d : D) : mkSv d = if shr d = true then .sh d else .ow d := (rfl)
def someK (o : Option En) : Out Fl := match o with
  | some ρ => .ok .nx ρ
  | none => .no
@[simp] theorem someK_some (ρ : En) : someK (some ρ) = .ok .nx ρ := (rfl)
def astK (t : D → En → Option En) : Out D → Out Fl
  | .ok d ρ => someK (t d ρ)
  | .ex x ρ => .ex x ρ
  | .no => .no
@[simp] theorem sAsT_eq (t : D → En → Option En) (f : En → Out D) (ρ : En) : sAsT t f ρ = astK t (f ρ) := by
  rw [sAsT]; cases f ρ with
  | ok d ρ => simp only [Out.bind, astK]; cases t d ρ <;> rfl
  | _ => rfl
@[simp] theorem astK_ok (t : D → En → Option En) (d : D) (ρ : En) : astK t (.ok d ρ) = someK (t d ρ) := (rfl)
@[simp] theorem astK_ex (t : D → En → Option En) (x : Exc) (ρ : En) : astK t (.ex x ρ) = .ex x ρ := (rfl)
@[simp] theorem tgN_eq (i : Nat) (d : D) (vs : List Sv) (st : RSt) : tgN i d ⟨vs, st⟩ = some ⟨vs.set i (mkSv d), st⟩ := (rfl)
def tgK (is : List Nat) (ρ : En) : D → Option En
  | .tup ds => (setsh ρ.vs is ds).map fun vs => { ρ with vs := vs }
  | _ => none
@[simp] theorem tgT_eq (is : List Nat) (d : D) (ρ : En) : tgT is d ρ = tgK is ρ (fz d) := by
  rw [tgT, tgK.eq_def] <;> rfl
@[simp] theorem tgK_tup (is : List Nat) (vs : List Sv) (st : RSt) (ds : List D) : tgK is ⟨vs, st⟩ (.tup ds) = (setsh vs is ds).map fun vs => ⟨vs, st⟩ := (rfl)
@[simp] theorem setsh_nil (vs : List Sv) : setsh vs [] [] = some vs := (rfl)
@[simp] theorem setsh_cons (vs : List Sv) (i : Nat) (is : List Nat) (d : D) (ds : List D) : setsh vs (i :: is) (d :: ds) = setsh (vs.set i (.sh d)) is ds := (rfl)
@[simp] theorem fgt_nil (vs : List Sv) : fgt vs [] = vs := (rfl)
@[simp] theorem fgt_cons (vs : List Sv) (i : Nat) (is : List Nat) : fgt vs (i :: is) = fgt (vs.set i .no) is := (rfl)
def forK (t : D → En → Option En) (body : En → Out Fl) (fg : List Nat) : Out (List D) → Out Fl
  | .ok ds ρ => forL t body fg ds ρ
  | .ex x ρ => .ex x ρ
  | .no => .no
@[simp] theorem sFor_eq (it : En → Out (List D)) (t : D → En → Option En) (body : En → Out Fl) (fg : List Nat) (ρ : En) : sFor it t body fg ρ = forK t body fg (it ρ) := by
  rw [sFor]; cases it ρ <;> rfl
@[simp] theorem forK_ok (t : D → En → Option En) (body : En → Out Fl) (fg : List Nat) (ds : List D) (ρ : En) : forK t body fg (.ok ds ρ) = forL t body fg ds ρ := (rfl)
@[simp] theorem forK_ex (t : D → En → Option En) (body : En → Out Fl) (fg : List Nat) (x : Exc) (ρ : En) : forK t body fg (.ex x ρ) = .ex x ρ := (rfl)
@[simp] theorem forL_nil (t : D → En → Option En) (body : En → Out Fl) (fg : List Nat) (ρ : En) : forL t body fg [] ρ = .ok .nx ρ := (rfl)
def flK (t : D → En → Option En) (body : En → Out Fl) (fg : List Nat) (ds : List D) : Out Fl → Out Fl
  | .ok .nx ρ2 => forL t body fg ds { ρ2 with vs := fgt ρ2.vs fg }
  | .ok .ct ρ2 => forL t body fg ds { ρ2 with vs := fgt ρ2.vs fg }
  | .ok .bk ρ2 => .ok .nx ρ2
  | .ok (.rt d) ρ2 => .ok (.rt d) ρ2
  | .ex x ρ => .ex x ρ
  | .no => .no
def flKo (t : D → En → Option En) (body : En → Out Fl) (fg : List Nat) (ds : List D) : Option En → Out Fl
  | some ρ1 => flK t body fg ds (body ρ1)
  | none => .no
theorem forL_cons (t : D → En → Option En) (body : En → Out Fl) (fg : List Nat) (d : D) (ds : List D) (ρ : En) : forL t body fg (d :: ds) ρ = flKo t body fg ds (t d ρ) := by
  rw [forL]; cases t d ρ with
  | none => rfl
  | some ρ1 =>
    simp only [flKo]
    cases body ρ1 with
    | ok fl ρ => cases fl <;> rfl
    | _ => rfl
@[simp] theorem flKo_some (t : D → En → Option En) (body : En → Out Fl) (fg : List Nat) (ds : List D) (ρ1 : En) : flKo t body fg ds (some ρ1) = flK t body fg ds (body ρ1) := (rfl)
@[simp] theorem flK_nx (t : D → En → Option En) (body : En → Out Fl) (fg : List Nat) (ds : List D) (vs : List Sv) (st : RSt) : flK t body fg ds (.ok .nx ⟨vs, st⟩) = forL t body fg ds ⟨fgt vs fg, st⟩ := (rfl)
@[simp] theorem flK_ct (t : D → En → Option En) (body : En → Out Fl) (fg : List Nat) (ds : List D) (vs : List Sv) (st : RSt) : flK t body fg ds (.ok .ct ⟨vs, st⟩) = forL t body fg ds ⟨fgt vs fg, st⟩ := (rfl)
@[simp] theorem flK_bk (t : D → En → Option En) (body : En → Out Fl) (fg : List Nat) (ds : List D) (ρ : En) : flK t body fg ds (.ok .bk ρ) = .ok .nx ρ := (rfl)
@[simp] theorem flK_rt (t : D → En → Option En) (body : En → Out Fl) (fg : List Nat) (ds : List D) (d : D) (ρ : En) : flK t body fg ds (.ok (.rt d) ρ) = .ok (.rt d) ρ := (rfl)
@[simp] theorem flK_ex (t : D → En → Option En) (body : En → Out Fl) (fg : List Nat) (ds : List D) (x : Exc) (ρ : En) : flK t body fg ds (.ex x ρ) = .ex x ρ := (rfl)
def lcK (t : D → En → Option En) (c : En → Out Bool) (elt : En → Out D) (own : List Nat) : Out (List D) → Out D
  | .ok ds ρ' => lstK (lcL t c elt own ds { ρ' with vs := fgt ρ'.vs own })
  | .ex x ρ => .ex x ρ
  | .no => .no
@[simp] theorem evLc_eq (it : En → Out (List D)) (t : D → En → Option En) (c : En → Out Bool) (elt : En → Out D) (own : List Nat) (ρ : En) : evLc it t c elt own ρ = lcK t c elt own (it ρ) := by
  rw [evLc]; cases it ρ with
  | ok ds ρ' => simp only [Out.bind, lcK]; cases lcL t c elt own ds { ρ' with vs := fgt ρ'.vs own } <;> rfl
  | _ => rfl
@[simp] theorem lcK_ok (t : D → En → Option En) (c : En → Out Bool) (elt : En → Out D) (own : List Nat) (ds : List D) (vs : List Sv) (st : RSt) : lcK t c elt own (.ok ds ⟨vs, st⟩) = lstK (lcL t c elt own ds ⟨fgt vs own, st⟩) := (rfl)
@[simp] theorem lcL_nil (t : D → En → Option En) (c : En → Out Bool) (elt : En → Out D) (own : List Nat) (ρ : En) : lcL t c elt own [] ρ = .ok [] ρ := (rfl)
def seqK : Out D → Out (List D)
  | .ok d ρ => match seqOf d with
    | some p => .ok p.2 ρ
    | none => .no
  | .ex x ρ => .ex x ρ
  | .no => .no
def sqoK (ρ : En) : Option (Bool × List D) → Out (List D)
  | some p => .ok p.2 ρ
  | none => .no
@[simp] theorem itSeq_eq (f : En → Out D) (ρ : En) : itSeq f ρ = seqK (f ρ) := by rw [itSeq]; cases f ρ <;> rfl
@[simp] theorem seqK_ok (d : D) (ρ : En) : seqK (.ok d ρ) = sqoK ρ (seqOf d) := by rw [seqK, sqoK.eq_def]; first | done | (cases seqOf d <;> rfl)
@[simp] theorem seqK_ex (x : Exc) (ρ : En) : seqK (.ex x ρ) = .ex x ρ := (rfl)
@[simp] theorem sqoK_some (ρ : En) (p : Bool × List D) : sqoK ρ (some p) = .ok p.2 ρ := (rfl)
def rgK : Out (List D) → Out (List D)
  | .ok [.int j] ρ' => if rgOk 0 j = true then .ok (rgD 0 j) ρ' else .no
  | .ok [.int i, .int j] ρ' => if rgOk i j = true then .ok (rgD i j) ρ' else .no
  | .ex x ρ => .ex x ρ
  | _ => .no
@[simp] theorem itRg_eq (ps : List Opd) (ρ : En) : itRg ps ρ = rgK (evOps ps ρ) := by
  rw [itRg]; cases evOps ps ρ with
  | ok ds ρ => simp only [Out.bind]; unfold rgK; split <;> simp_all
  | _ => rfl
theorem rgK_1 (j : Int) (ρ : En) : rgK (.ok [.int j] ρ) = if rgOk 0 j = true then .ok (rgD 0 j) ρ else .no := rfl
def callK (den : Den) (ps : List Opd) : Out (List D) → Out D
  | .ok ds ρ' => match den (ds.map fz) ρ'.st with
    | .ok d st' => if clo d = true then .ok d { ρ' with st := st' } else .ok d { vs := frzS (isVar ps) 0 ρ'.vs, st := st' }
    | .ex x st' => .ex x { vs := frzS (isVar ps) 0 ρ'.vs, st := st' }
    | .no => .no
  | .ex x ρ => .ex x ρ
  | .no => .no
def resK (ps : List Opd) (vs : List Sv) : Res → Out D
  | .ok d st' => if clo d = true then .ok d ⟨vs, st'⟩ else .ok d ⟨frzS (isVar ps) 0 vs, st'⟩
  | .ex x st' => .ex x ⟨frzS (isVar ps) 0 vs, st'⟩
  | .no => .no
@[simp] theorem evCall_eq (den : Den) (ps : List Opd) (ρ : En) : evCall den ps ρ = callK den ps (evOps ps ρ) := by
  rw [evCall]; cases evOps ps ρ <;> rfl
@[simp] theorem callK_ok (den : Den) (ps : List Opd) (ds : List D) (vs : List Sv) (st : RSt) : callK den ps (.ok ds ⟨vs, st⟩) = resK ps vs (den (ds.map fz) st) := by
  rw [callK, resK.eq_def]
@[simp] theorem callK_ex (den : Den) (ps : List Opd) (x : Exc) (ρ : En) : callK den ps (.ex x ρ) = .ex x ρ := (rfl)
@[simp] theorem resK_ok (ps : List Opd) (vs : List Sv) (d : D) (st : RSt) : resK ps vs (.ok d st) = if clo d = true then .ok d ⟨vs, st⟩ else .ok d ⟨frzS (isVar ps) 0 vs, st⟩ := (rfl)
@[simp] theorem resK_ex (ps : List Opd) (vs : List Sv) (x : Exc) (st : RSt) : resK ps vs (.ex x st) = .ex x ⟨frzS (isVar ps) 0 vs, st⟩ := (rfl)
@[simp] theorem isVar_nil : isVar [] = [] := (rfl)
@[simp] theorem isVar_val (f : En → Out D) (ps : List Opd) : isVar (.val f :: ps) = isVar ps := (rfl)
@[simp] theorem isVar_var (i : Nat) (ps : List Opd) : isVar (.var i :: ps) = i :: isVar ps := (rfl)
@[simp] theorem frzS_nil' (is : List Nat) (n : Nat) : frzS is n [] = [] := (rfl)
@[simp] theorem frzS_cons' (is : List Nat) (n : Nat) (s : Sv) (vs : List Sv) : frzS is n (s :: vs) = (if is.contains n = true then frz1 s else s) :: frzS is (n + 1) vs := (rfl)
@[simp] theorem frz1_no : frz1 .no = .no := (rfl)
@[simp] theorem frz1_sh (d : D) : frz1 (.sh d) = .sh d := (rfl)
@[simp] theorem frz1_ow (d : D) : frz1 (.ow d) = .sh (frz d) := (rfl)
def fnK : Out Fl → Res
  | .ok .nx ρ => .ok .non ρ.st
  | .ok (.rt d) ρ => .ok d ρ.st
  | .ok _ _ => .no
  | .ex x ρ => .ex x ρ.st
  | .no => .no
theorem fnRes_eq (g : En → Out Fl) (k : Nat) (ds : List D) (st : RSt) : fnRes g k ds st = fnK (g ⟨ds.map .sh ++ List.replicate k .no, st⟩) := by
  rw [fnRes, fnK.eq_def]
  all_goals (generalize g { vs := List.map Sv.sh ds ++ List.replicate k Sv.no, st := st } = o; rcases o with ⟨fl, ρ⟩ | ⟨x, ρ⟩ | _ <;> (try cases fl) <;> rfl)
@[simp] theorem fnK_nx (vs : List Sv) (st : RSt) : fnK (.ok .nx ⟨vs, st⟩) = .ok .non st := (rfl)
@[simp] theorem fnK_rt (d : D) (vs : List Sv) (st : RSt) : fnK (.ok (.rt d) ⟨vs, st⟩) = .ok d st := (rfl)
@[simp] theorem fnK_ex (x : Exc) (vs : List Sv) (st : RSt) : fnK (.ex x ⟨vs, st⟩) = .ex x st := (rfl)
def meK0 (mo : List D → D → Option (List D)) (i : Nat) : Out D → Out Fl
  | .ok d ρ' => match ρ'.vs[i]? with
    | some (.ow (.lst true ds)) => match mo ds d with
      | some ds' => .ok .nx { ρ' with vs := ρ'.vs.set i (.ow (.lst true ds')) }
      | none => .no
    | _ => .no
  | .ex x ρ => .ex x ρ
  | .no => .no
def meK1 (mo : List D → D → Option (List D)) (i : Nat) (fe : En → Out D) (ρ : En) : Option Sv → Out Fl
  | some (.ow (.lst true _)) => meK0 mo i (fe ρ)
  | _ => .no
def meK2 (mo : List D → D → Option (List D)) (i : Nat) (d : D) (ρ' : En) : Option Sv → Out Fl
  | some (.ow (.lst true ds)) => match mo ds d with
      | some ds' => .ok .nx { ρ' with vs := ρ'.vs.set i (.ow (.lst true ds')) }
      | none => .no
  | _ => .no
def meK3 (i : Nat) (ρ' : En) : Option (List D) → Out Fl
  | some ds' => .ok .nx { ρ' with vs := ρ'.vs.set i (.ow (.lst true ds')) }
  | none => .no
@[simp] theorem sMe1_eq (mo : List D → D → Option (List D)) (i : Nat) (fe : En → Out D) (vs : List Sv) (st : RSt) : sMe1 mo i fe ⟨vs, st⟩ = meK1 mo i fe ⟨vs, st⟩ vs[i]? := by
  rw [sMe1]
  dsimp only
  match vs[i]? with
  | some (.ow (.lst true ds)) =>
    rw [meK1, meK0.eq_def]
    cases fe ⟨vs, st⟩ <;> rfl
  | none => rfl
  | some .no => rfl
  | some (.sh _) => rfl
  | some (.ow (.lst false _)) => rfl
  | some (.ow .non) => rfl
  | some (.ow (.bl _)) => rfl
  | some (.ow (.int _)) => rfl
  | some (.ow (.str _)) => rfl
  | some (.ow (.tup _)) => rfl
  | some (.ow (.dk _ _ _)) => rfl
  | some (.ow (.dt _ _ _)) => rfl
  | some (.ow .rs) => rfl
  | some (.ow (.ob _ _ _ _)) => rfl
  | some (.ow (.ev _ _ _)) => rfl
  | some (.ow (.tv _)) => rfl
  | some (.ow (.tz _)) => rfl
@[simp] theorem meK1_ok (mo : List D → D → Option (List D)) (i : Nat) (fe : En → Out D) (ρ : En) (ds : List D) : meK1 mo i fe ρ (some (.ow (.lst true ds))) = meK0 mo i (fe ρ) := (rfl)
@[simp] theorem meK0_ok (mo : List D → D → Option (List D)) (i : Nat) (d : D) (vs : List Sv) (st : RSt) : meK0 mo i (.ok d ⟨vs, st⟩) = meK2 mo i d ⟨vs, st⟩ vs[i]? := by
  rw [meK0, meK2.eq_def]
@[simp] theorem meK0_ex (mo : List D → D → Option (List D)) (i : Nat) (x : Exc) (ρ : En) : meK0 mo i (.ex x ρ) = .ex x ρ := (rfl)
@[simp] theorem meK2_ok (mo : List D → D → Option (List D)) (i : Nat) (d : D) (ρ : En) (ds : List D) : meK2 mo i d ρ (some (.ow (.lst true ds))) = meK3 i ρ (mo ds d) := by
  rw [meK2, meK3.eq_def]
@[simp] theorem meK3_some (i : Nat) (vs : List Sv) (st : RSt) (ds : List D) : meK3 i ⟨vs, st⟩ (some ds) = .ok .nx ⟨vs.set i (.ow (.lst true ds)), st⟩ := (rfl)
def stK (i : Nat) (d : D) (fk : En → Out D) (ρ1 : En) : Option Sv → Out Fl
  | some (.ow _) => (fk ρ1).bind fun k ρ2 => match ρ2.vs[i]? with
    | some (.ow (.lst true ds)) => match k with
      | .int j => match ixN ds.length j with
        | some m => .ok .nx { ρ2 with vs := ρ2.vs.set i (.ow (.lst true (ds.set m d))) }
        | none => .no
      | _ => .no
    | some (.ow (.dk true ks ds)) => match keyD k with
      | some q => if ds.length < sizeLine ∧ ks.Nodup then .ok .nx { ρ2 with vs := ρ2.vs.set i (.ow (.dk true (putKs ks q) (putXs ks ds q d))) } else .no
      | none => .no
    | _ => .no
  | _ => .no
def st0 (i : Nat) (fk : En → Out D) : Out D → Out Fl
  | .ok d ρ1 => stK i d fk ρ1 ρ1.vs[i]?
  | .ex x ρ => .ex x ρ
  | .no => .no
def st1 (i : Nat) (d : D) : Out D → Out Fl
  | .ok k ρ2 => match ρ2.vs[i]? with
    | some (.ow (.lst true ds)) => match k with
      | .int j => match ixN ds.length j with
        | some m => .ok .nx { ρ2 with vs := ρ2.vs.set i (.ow (.lst true (ds.set m d))) }
        | none => .no
      | _ => .no
    | some (.ow (.dk true ks ds)) => match keyD k with
      | some q => if ds.length < sizeLine ∧ ks.Nodup then .ok .nx { ρ2 with vs := ρ2.vs.set i (.ow (.dk true (putKs ks q) (putXs ks ds q d))) } else .no
      | none => .no
    | _ => .no
  | .ex x ρ => .ex x ρ
  | .no => .no
def st2 (i : Nat) (d k : D) (ρ2 : En) : Option Sv → Out Fl
  | some (.ow (.lst true ds)) => match k with
      | .int j => match ixN ds.length j with
        | some m => .ok .nx { ρ2 with vs := ρ2.vs.set i (.ow (.lst true (ds.set m d))) }
        | none => .no
      | _ => .no
  | some (.ow (.dk true ks ds)) => match keyD k with
      | some q => if ds.length < sizeLine ∧ ks.Nodup then .ok .nx { ρ2 with vs := ρ2.vs.set i (.ow (.dk true (putKs ks q) (putXs ks ds q d))) } else .no
      | none => .no
  | _ => .no
def stn (i : Nat) (d : D) (ρ2 : En) (ds : List D) : Option Nat → Out Fl
  | some m => .ok .nx { ρ2 with vs := ρ2.vs.set i (.ow (.lst true (ds.set m d))) }
  | none => .no
def stk (i : Nat) (d : D) (ρ2 : En) (ks : List Key) (ds : List D) : Option Key → Out Fl
  | some q => if ds.length < sizeLine ∧ ks.Nodup then .ok .nx { ρ2 with vs := ρ2.vs.set i (.ow (.dk true (putKs ks q) (putXs ks ds q d))) } else .no
  | none => .no
@[simp] theorem sSet_eq (i : Nat) (fk fe : En → Out D) (ρ : En) : sSet i fk fe ρ = st0 i fk (fe ρ) := by
  rw [sSet, st0.eq_def]; cases fe ρ with
  | ok d ρ1 => rfl
  | _ => rfl
@[simp] theorem st0_ok (i : Nat) (fk : En → Out D) (d : D) (vs : List Sv) (st : RSt) : st0 i fk (.ok d ⟨vs, st⟩) = stK i d fk ⟨vs, st⟩ vs[i]? := (rfl)
@[simp] theorem st0_ex (i : Nat) (fk : En → Out D) (x : Exc) (ρ : En) : st0 i fk (.ex x ρ) = .ex x ρ := (rfl)
@[simp] theorem stK_ok (i : Nat) (d d0 : D) (fk : En → Out D) (ρ1 : En) : stK i d fk ρ1 (some (.ow d0)) = st1 i d (fk ρ1) := by
  rw [stK, st1.eq_def]; cases fk ρ1 <;> rfl
@[simp] theorem st1_ok (i : Nat) (d k : D) (vs : List Sv) (st : RSt) : st1 i d (.ok k ⟨vs, st⟩) = st2 i d k ⟨vs, st⟩ vs[i]? := by
  rw [st1, st2.eq_def]
@[simp] theorem st2_lst (i : Nat) (d : D) (j : Int) (ρ : En) (ds : List D) : st2 i d (.int j) ρ (some (.ow (.lst true ds))) = stn i d ρ ds (ixN ds.length j) := by
  rw [st2, stn.eq_def]
@[simp] theorem st2_dk (i : Nat) (d k : D) (ρ : En) (ks : List Key) (ds : List D) : st2 i d k ρ (some (.ow (.dk true ks ds))) = stk i d ρ ks ds (keyD k) := by
  rw [st2, stk.eq_def]
@[simp] theorem stn_some (i : Nat) (d : D) (vs : List Sv) (st : RSt) (ds : List D) (m : Nat) : stn i d ⟨vs, st⟩ ds (some m) = .ok .nx ⟨vs.set i (.ow (.lst true (ds.set m d))), st⟩ := (rfl)
theorem stk_some (i : Nat) (d : D) (vs : List Sv) (st : RSt) (ks : List Key) (ds : List D) (q : Key) : stk i d ⟨vs, st⟩ ks ds (some q) = if ds.length < sizeLine ∧ ks.Nodup then .ok .nx ⟨vs.set i (.ow (.dk true (putKs ks q) (putXs ks ds q d))), st⟩ else .no := (rfl)
@[simp] theorem keyD_int (i : Int) : keyD (.int i) = some (.inl i) := (rfl)
@[simp] theorem keyD_str (x : Str) : keyD (.str x) = some (.inr x) := (rfl)
def slK (lo hi : Bool) : Out (List D) → Out D
  | .ok (d :: is) ρ' => match seqOf d, intsOf is with
    | some (b, xs), some js => match lo, hi, js with
      | false, false, [] => .ok (if b = true then .lst true (cutD xs none none) else .tup (cutD xs none none)) ρ'
      | true, false, [i] => .ok (if b = true then .lst true (cutD xs (some i) none) else .tup (cutD xs (some i) none)) ρ'
      | false, true, [j] => .ok (if b = true then .lst true (cutD xs none (some j)) else .tup (cutD xs none (some j))) ρ'
      | true, true, [i, j] => .ok (if b = true then .lst true (cutD xs (some i) (some j)) else .tup (cutD xs (some i) (some j))) ρ'
      | _, _, _ => .no
    | _, _ => .no
  | .ok [] _ => .no
  | .ex x ρ => .ex x ρ
  | .no => .no
def mkSq (b : Bool) (xs : List D) : D := if b = true then .lst true xs else .tup xs
@[simp] theorem mkSq_t (xs : List D) : mkSq true xs = .lst true xs := (rfl)
@[simp] theorem mkSq_f (xs : List D) : mkSq false xs = .tup xs := (rfl)
def slo (lo hi : Option Int) (ρ : En) : Option (Bool × List D) → Out D
  | some p => .ok (mkSq p.1 (cutD p.2 lo hi)) ρ
  | none => .no
@[simp] theorem slo_some (lo hi : Option Int) (ρ : En) (p : Bool × List D) : slo lo hi ρ (some p) = .ok (mkSq p.1 (cutD p.2 lo hi)) ρ := (rfl)
theorem evSl_eq (pa : Opd) (lo hi : Option (En → Out D)) (ρ : En) : evSl pa lo hi ρ = slK lo.isSome hi.isSome (evOps (pa :: (prD lo ++ prD hi)) ρ) := by
  rw [evSl]
  cases evOps (pa :: (prD lo ++ prD hi)) ρ with
  | ok ds ρ' =>
    simp only [Out.bind]
    cases ds with
    | nil => rfl
    | cons d is =>
      simp only [slK]
      cases seqOf d with
      | none => rfl
      | some p =>
        cases intsOf is with
        | none => rfl
        | some js => cases lo <;> cases hi <;> (rcases js with _ | ⟨a, _ | ⟨b, _ | ⟨c, js⟩⟩⟩) <;> rfl
  | _ => rfl
@[simp] theorem evSl_0 (pa : Opd) (ρ : En) : evSl pa none none ρ = slK false false (evOps [pa] ρ) := evSl_eq _ _ _ _
@[simp] theorem evSl_1 (pa : Opd) (f : En → Out D) (ρ : En) : evSl pa (some f) none ρ = slK true false (evOps [pa, .val f] ρ) := evSl_eq _ _ _ _
@[simp] theorem evSl_2 (pa : Opd) (f : En → Out D) (ρ : En) : evSl pa none (some f) ρ = slK false true (evOps [pa, .val f] ρ) := evSl_eq _ _ _ _
@[simp] theorem slK_0 (d : D) (ρ : En) : slK false false (.ok [d] ρ) = slo none none ρ (seqOf d) := by
  simp only [slK, intsOf]; rw [slo.eq_def]; cases seqOf d <;> rfl
@[simp] theorem slK_1 (d : D) (i : Int) (ρ : En) : slK true false (.ok [d, .int i] ρ) = slo (some i) none ρ (seqOf d) := by
  simp only [slK, intsOf]; rw [slo.eq_def]; cases seqOf d <;> rfl
@[simp] theorem slK_2 (d : D) (i : Int) (ρ : En) : slK false true (.ok [d, .int i] ρ) = slo none (some i) ρ (seqOf d) := by
  simp only [slK, intsOf]; rw [slo.eq_def]; cases seqOf d <;> rfl
def zpK1 (g : En → Out D) : Out D → Out (List D)
  | .ok d ρ1 => (g ρ1).bind fun e ρ2 => match seqOf d, seqOf e with
    | some (true, xs), some (true, ys) => .ok (zipD xs ys) ρ2
    | some (false, xs), some (false, ys) => .ok (zipD xs ys) ρ2
    | _, _ => .no
  | .ex x ρ => .ex x ρ
  | .no => .no
def zpK2 (d : D) : Out D → Out (List D)
  | .ok e ρ2 => match seqOf d, seqOf e with
    | some (true, xs), some (true, ys) => .ok (zipD xs ys) ρ2
    | some (false, xs), some (false, ys) => .ok (zipD xs ys) ρ2
    | _, _ => .no
  | .ex x ρ => .ex x ρ
  | .no => .no
def zpK3 (ρ : En) : Option (Bool × List D) → Option (Bool × List D) → Out (List D)
  | some (true, xs), some (true, ys) => .ok (zipD xs ys) ρ
  | some (false, xs), some (false, ys) => .ok (zipD xs ys) ρ
  | _, _ => .no
@[simp] theorem itZip_eq (f g : En → Out D) (ρ : En) : itZip f g ρ = zpK1 g (f ρ) := by
  rw [itZip, zpK1.eq_def]; cases f ρ <;> rfl
@[simp] theorem zpK1_ok (g : En → Out D) (d : D) (ρ : En) : zpK1 g (.ok d ρ) = zpK2 d (g ρ) := by
  rw [zpK1, zpK2.eq_def]; cases g ρ <;> rfl
@[simp] theorem zpK2_ok (d e : D) (ρ : En) : zpK2 d (.ok e ρ) = zpK3 ρ (seqOf d) (seqOf e) := by
  rw [zpK2, zpK3.eq_def]
@[simp] theorem zpK3_t (xs ys : List D) (ρ : En) : zpK3 ρ (some (true, xs)) (some (true, ys)) = .ok (zipD xs ys) ρ := (rfl)
@[simp] theorem zpK3_f (xs ys : List D) (ρ : En) : zpK3 ρ (some (false, xs)) (some (false, ys)) = .ok (zipD xs ys) ρ := (rfl)
def enK : Out D → Out (List D)
  | .ok d ρ' => match seqOf d with
    | some (true, xs) => .ok (enD 0 xs) ρ'
    | _ => .no
  | .ex x ρ => .ex x ρ
  | .no => .no
def enK2 (ρ : En) : Option (Bool × List D) → Out (List D)
  | some (true, xs) => .ok (enD 0 xs) ρ
  | _ => .no
@[simp] theorem itEnV_eq (f : En → Out D) (ρ : En) : itEnV f ρ = enK (f ρ) := by
  rw [itEnV, enK.eq_def]; cases f ρ <;> rfl
@[simp] theorem enK_ok (d : D) (ρ : En) : enK (.ok d ρ) = enK2 ρ (seqOf d) := by
  rw [enK, enK2.eq_def]
@[simp] theorem enK2_t (xs : List D) (ρ : En) : enK2 ρ (some (true, xs)) = .ok (enD 0 xs) ρ := (rfl)
@[simp] theorem opAdd_i (i j : Int) : opAdd [.int i, .int j] = some (.int (i + j)) := (rfl)
@[simp] theorem opSub_i (i j : Int) : opSub [.int i, .int j] = some (.int (i - j)) := (rfl)
@[simp] theorem opLt_i (i j : Int) : opLt [.int i, .int j] = some (.bl (decide (i < j))) := (rfl)
@[simp] theorem opGt_i (i j : Int) : opGt [.int i, .int j] = some (.bl (decide (j < i))) := (rfl)
@[simp] theorem opGe_i (i j : Int) : opGe [.int i, .int j] = some (.bl (decide (j ≤ i))) := (rfl)
@[simp] theorem opEq_i (i j : Int) : opEq [.int i, .int j] = some (.bl (decide (i = j))) := (rfl)
@[simp] theorem opNe_i (i j : Int) : opNe [.int i, .int j] = some (.bl (!decide (i = j))) := (rfl)
@[simp] theorem opEq_s (i j : Str) : opEq [.str i, .str j] = some (.bl (decide (i = j))) := (rfl)
@[simp] theorem opNe_s (i j : Str) : opNe [.str i, .str j] = some (.bl (!decide (i = j))) := (rfl)
@[simp] theorem opEq_b (i j : Bool) : opEq [.bl i, .bl j] = some (.bl (decide (i = j))) := (rfl)
@[simp] theorem opNe_b (i j : Bool) : opNe [.bl i, .bl j] = some (.bl (!decide (i = j))) := (rfl)
@[simp] theorem opMax2_i (i j : Int) : opMax2 [.int i, .int j] = some (.int (if j > i then j else i)) := (rfl)
@[simp] theorem opMin2_i (i j : Int) : opMin2 [.int i, .int j] = some (.int (if j < i then j else i)) := (rfl)
@[simp] theorem opInt_b (b : Bool) : opInt [.bl b] = some (.int (if b = true then 1 else 0)) := (rfl)
@[simp] theorem opInt_i (b : Int) : opInt [.int b] = some (.int b) := (rfl)
@[simp] theorem opNeg_i (i : Int) : opNeg [.int i] = some (.int (-i)) := (rfl)
theorem opFd_i {i j : Int} (h : 0 < j) (h2 : j < 1073741824) : opFd [.int i, .int j] = some (.int (i / j)) := by
  simp [opFd, opI2, h, h2]
theorem opMd_i {i j : Int} (h : 0 < j) : opMd [.int i, .int j] = some (.int (i % j)) := by
  simp [opMd, opI2, h]
@[simp] theorem opLen_l (o : Bool) (xs : List D) : opLen [.lst o xs] = some (.int xs.length) := (rfl)
@[simp] theorem opLen_t (xs : List D) : opLen [.tup xs] = some (.int xs.length) := (rfl)
@[simp] theorem opIsN_n : opIsN [.non, .non] = some (.bl true) := (rfl)
@[simp] theorem opIsN_i (i : Int) : opIsN [.int i, .non] = some (.bl false) := (rfl)
@[simp] theorem opIsN_s (i : Str) : opIsN [.str i, .non] = some (.bl false) := (rfl)
@[simp] theorem opIsN_t (i : List D) : opIsN [.tup i, .non] = some (.bl false) := (rfl)
@[simp] theorem opIsN_l (o : Bool) (i : List D) : opIsN [.lst o i, .non] = some (.bl false) := (rfl)
@[simp] theorem opIsN_b (i : Bool) : opIsN [.bl i, .non] = some (.bl false) := (rfl)
@[simp] theorem opNoN_n : opNoN [.non, .non] = some (.bl false) := (rfl)
@[simp] theorem opNoN_i (i : Int) : opNoN [.int i, .non] = some (.bl true) := (rfl)
@[simp] theorem opNoN_s (i : Str) : opNoN [.str i, .non] = some (.bl true) := (rfl)
@[simp] theorem opNoN_t (i : List D) : opNoN [.tup i, .non] = some (.bl true) := (rfl)
@[simp] theorem opIsi_eq (c : PT) (d : D) : opIsi c [d] = if isOb d = true then none else some (.bl ((tyD d).is c)) := (rfl)
@[simp] theorem isOb_non : isOb .non = false := (rfl)
@[simp] theorem isOb_bl (b : Bool) : isOb (.bl b) = false := (rfl)
@[simp] theorem isOb_int (b : Int) : isOb (.int b) = false := (rfl)
@[simp] theorem isOb_str (b : Str) : isOb (.str b) = false := (rfl)
@[simp] theorem isOb_lst (o : Bool) (xs : List D) : isOb (.lst o xs) = false := (rfl)
@[simp] theorem isOb_tup (xs : List D) : isOb (.tup xs) = false := (rfl)
@[simp] theorem isOb_dk (o : Bool) (ks : List Key) (xs : List D) : isOb (.dk o ks xs) = false := (rfl)
@[simp] theorem isOb_dt (o : Bool) (ks : List (List Key)) (xs : List D) : isOb (.dt o ks xs) = true := (rfl)
@[simp] theorem isOb_rs : isOb .rs = false := (rfl)
@[simp] theorem isOb_ev (C : Str) (fs : List Str) (xs : List D) : isOb (.ev C fs xs) = true := (rfl)
@[simp] theorem isOb_ob (o : Bool) (C : Str) (fs : List Str) (xs : List D) : isOb (.ob o C fs xs) = true := (rfl)
theorem opRgL1_i {j : Int} (h : rgOk 0 j = true) : opRgL1 [.int j] = some (.lst true (rgD 0 j)) := if_pos h
theorem opRgT2_i {i j : Int} (h : rgOk i j = true) : opRgT2 [.int i, .int j] = some (.tup (rgD i j)) := if_pos h
theorem moApp_i {ds : List D} {d : D} (h : ds.length < sizeLine) : moApp ds d = some (ds ++ [d]) := if_pos h
@[simp] theorem fz_int (i : Int) : fz (.int i) = .int i := (rfl)
@[simp] theorem fz_str (i : Str) : fz (.str i) = .str i := (rfl)
@[simp] theorem fz_bl (i : Bool) : fz (.bl i) = .bl i := (rfl)
@[simp] theorem fz_non : fz .non = .non := (rfl)
@[simp] theorem fz_rs : fz .rs = .rs := (rfl)
@[simp] theorem shr_int (i : Int) : shr (.int i) = true := by simp [shr]
@[simp] theorem shr_str (i : Str) : shr (.str i) = true := by simp [shr]
@[simp] theorem shr_bl (i : Bool) : shr (.bl i) = true := by simp [shr]
@[simp] theorem shr_non : shr .non = true := by simp [shr]
@[simp] theorem shr_rs : shr .rs = true := by simp [shr]
@[simp] theorem shr_lst (o : Bool) (xs : List D) : shr (.lst o xs) = (!o && shrL xs) := by simp [shr]
@[simp] theorem shr_tup (xs : List D) : shr (.tup xs) = shrL xs := by simp [shr]
@[simp] theorem shr_dk (o : Bool) (ks : List Key) (xs : List D) : shr (.dk o ks xs) = (!o && shrL xs) := by simp [shr]
@[simp] theorem shrL_nil : shrL [] = true := by simp [shrL]
@[simp] theorem shrL_cons (d : D) (ds : List D) : shrL (d :: ds) = (shr d && shrL ds) := by simp [shrL]
@[simp] theorem shrL_append (a b : List D) : shrL (a ++ b) = (shrL a && shrL b) := by
  induction a with
  | nil => simp
  | cons x xs ih => simp [ih, Bool.and_assoc]
theorem shrL_map {α : Type} {f : α → D} (h : ∀ x, shr (f x) = true) (xs : List α) : shrL (xs.map f) = true := by
  induction xs with
  | nil => simp
  | cons x xs ih => simp [h, ih]
theorem shrL_all {ds : List D} : shrL ds = true ↔ ∀ d ∈ ds, shr d = true := by
  induction ds with
  | nil => simp
  | cons x xs ih => simp [ih]
@[simp] theorem clo_int (i : Int) : clo (.int i) = true := by simp [clo]
@[simp] theorem clo_str (i : Str) : clo (.str i) = true := by simp [clo]
@[simp] theorem clo_bl (i : Bool) : clo (.bl i) = true := by simp [clo]
@[simp] theorem clo_non : clo .non = true := by simp [clo]
@[simp] theorem clo_lst (o : Bool) (xs : List D) : clo (.lst o xs) = (o && cloL xs) := by simp [clo]
@[simp] theorem clo_tup (xs : List D) : clo (.tup xs) = cloL xs := by simp [clo]
@[simp] theorem clo_dt (o : Bool) (ks : List (List Key)) (xs : List D) : clo (.dt o ks xs) = (o && cloL xs) := by simp [clo]
@[simp] theorem clo_ob (o : Bool) (C : Str) (fs : List Str) (xs : List D) : clo (.ob o C fs xs) = (o && cloL xs) := by simp [clo]
@[simp] theorem shr_ob (o : Bool) (C : Str) (fs : List Str) (xs : List D) : shr (.ob o C fs xs) = (!o && shrL xs) := by simp [shr]
@[simp] theorem frz_ob (o : Bool) (C : Str) (fs : List Str) (xs : List D) : frz (.ob o C fs xs) = .ob false C fs (frzL xs) := by simp [frz]
@[simp] theorem clo_ev (C : Str) (fs : List Str) (xs : List D) : clo (.ev C fs xs) = false := by simp [clo]
@[simp] theorem shr_ev (C : Str) (fs : List Str) (xs : List D) : shr (.ev C fs xs) = true := by simp [shr]
@[simp] theorem frz_ev (C : Str) (fs : List Str) (xs : List D) : frz (.ev C fs xs) = .ev C fs xs := by simp [frz]
@[simp] theorem clo_rs : clo .rs = true := by simp [clo]
@[simp] theorem clo_dk (o : Bool) (ks : List Key) (xs : List D) : clo (.dk o ks xs) = (o && cloL xs) := by simp [clo]
@[simp] theorem cloL_nil : cloL [] = true := by simp [cloL]
@[simp] theorem cloL_cons (d : D) (ds : List D) : cloL (d :: ds) = (clo d && cloL ds) := by simp [cloL]
theorem cloL_map {α : Type} {f : α → D} (h : ∀ x, clo (f x) = true) (xs : List α) : cloL (xs.map f) = true := by
  induction xs with
  | nil => simp
  | cons x xs ih => simp [h, ih]
@[simp] theorem frz_int (i : Int) : frz (.int i) = .int i := by simp [frz]
@[simp] theorem frz_str (i : Str) : frz (.str i) = .str i := by simp [frz]
@[simp] theorem frz_bl (i : Bool) : frz (.bl i) = .bl i := by simp [frz]
@[simp] theorem frz_non : frz .non = .non := by simp [frz]
@[simp] theorem frz_rs : frz .rs = .rs := by simp [frz]
@[simp] theorem frz_lst (o : Bool) (xs : List D) : frz (.lst o xs) = .lst false (frzL xs) := by simp [frz]
@[simp] theorem frz_tup (xs : List D) : frz (.tup xs) = .tup (frzL xs) := by simp [frz]
@[simp] theorem frz_dk (o : Bool) (ks : List Key) (xs : List D) : frz (.dk o ks xs) = .dk false ks (frzL xs) := by simp [frz]
@[simp] theorem frzL_nil : frzL [] = [] := by simp [frzL]
@[simp] theorem frzL_cons (d : D) (ds : List D) : frzL (d :: ds) = frz d :: frzL ds := by simp [frzL]
mutual
theorem frz_shr : ∀ {d : D}, shr d = true → frz d = d
  | .non, _ => by simp
  | .bl _, _ => by simp
  | .int _, _ => by simp
  | .str _, _ => by simp
  | .rs, _ => by simp
  | .lst o xs, h => by
    simp at h
    simp [h.1, frzL_shr h.2]
  | .tup xs, h => by
    simp at h
    simp [frzL_shr h]
  | .dk o ks xs, h => by
    simp at h
    simp [h.1, frzL_shr h.2]
  | .dt o ks xs, h => by
    simp [shr] at h
    simp [frz, h.1, frzL_shr h.2]
  | .ob o C fs xs, h => by
    simp [shr] at h
    simp [frz, h.1, frzL_shr h.2]
  | .ev C fs xs, h => by simp
  | .tv vs, h => by simp [frz]
  | .tz xs, h => by
    simp [shr] at h
    simp [frz, frzL_shr h]
theorem frzL_shr : ∀ {ds : List D}, shrL ds = true → frzL ds = ds
  | [], _ => by simp
  | d :: ds, h => by
    simp at h
    simp [frz_shr h.1, frzL_shr h.2]
end
@[simp] theorem fz_tup (xs : List D) : fz (.tup xs) = .tup (frzL xs) := by
  unfold fz
  split
  · rename_i h
    simp at h
    rw [frzL_shr h]
  · simp
@[simp] theorem fz_lst (o : Bool) (xs : List D) : fz (.lst o xs) = .lst false (frzL xs) := by
  unfold fz
  split
  · rename_i h
    simp at h
    rw [frzL_shr h.2, h.1]
  · simp
@[simp] theorem fz_dk (o : Bool) (ks : List Key) (xs : List D) : fz (.dk o ks xs) = .dk false ks (frzL xs) := by
  unfold fz
  split
  · rename_i h
    simp at h
    rw [frzL_shr h.2, h.1]
  · simp
@[simp] theorem seqOf_lf (xs : List D) : seqOf (.lst false xs) = some (true, xs) := (rfl)
theorem seqOf_lt {xs : List D} (h : shrL xs = true) : seqOf (.lst true xs) = some (true, xs) := by simp [seqOf, h]
theorem seqOf_tp' {xs : List D} (h : shrL xs = true) : seqOf (.tup xs) = some (false, xs) := by simp [seqOf, h]
end Fw

namespace Fw
open PySem L2
def ixtK1 (g : En → Out D) : Out D → Out D
  | .ok d ρ1 => (g ρ1).bind fun j ρ2 => match itemsD d, j with
    | some xs, .int i => match atI xs i with
      | some x => .ok x ρ2
      | none => .no
    | _, _ => .no
  | .ex x ρ => .ex x ρ
  | .no => .no
def ixtK2 (d : D) : Out D → Out D
  | .ok j ρ2 => match itemsD d, j with
    | some xs, .int i => match atI xs i with
      | some x => .ok x ρ2
      | none => .no
    | _, _ => .no
  | .ex x ρ => .ex x ρ
  | .no => .no
@[simp] theorem evIxT_eq (f g : En → Out D) (ρ : En) : evIxT f g ρ = ixtK1 g (f ρ) := by
  rw [evIxT, ixtK1.eq_def]; cases f ρ <;> rfl
@[simp] theorem ixtK1_ok (g : En → Out D) (d : D) (ρ : En) : ixtK1 g (.ok d ρ) = ixtK2 d (g ρ) := by
  rw [ixtK1, ixtK2.eq_def]; cases g ρ <;> rfl
@[simp] theorem ixtK1_ex (g : En → Out D) (x : Exc) (ρ : En) : ixtK1 g (.ex x ρ) = .ex x ρ := (rfl)
@[simp] theorem ixtK2_l (o : Bool) (xs : List D) (i : Int) (ρ : En) : ixtK2 (.lst o xs) (.ok (.int i) ρ) = odK ρ (atI xs i) := by
  simp only [ixtK2, itemsD, odK.eq_def] <;> cases atI xs i <;> rfl
@[simp] theorem ixtK2_t (xs : List D) (i : Int) (ρ : En) : ixtK2 (.tup xs) (.ok (.int i) ρ) = odK ρ (atI xs i) := by
  simp only [ixtK2, itemsD, odK.eq_def] <;> cases atI xs i <;> rfl
def rgcK : Out (List D) → Out (List D)
  | .ok [.int i, .int j, .int (-1)] ρ' => if rgOk j i = true then .ok (rgC i (-1) (i - j).toNat) ρ' else .no
  | .ex x ρ => .ex x ρ
  | _ => .no
@[simp] theorem itRgC_eq (ps : List Opd) (ρ : En) : itRgC ps ρ = rgcK (evOps ps ρ) := by
  rw [itRgC]
  cases evOps ps ρ with
  | ok ds ρ => simp only [Out.bind]; unfold rgcK; split <;> simp_all
  | _ => rfl
theorem rgcK_ok (i j : Int) (ρ : En) (h : rgOk j i = true) : rgcK (.ok [.int i, .int j, .int (-1)] ρ) = .ok (rgC i (-1) (i - j).toNat) ρ := if_pos h
def patK (i : Nat) (f : En → Out D) (ρ : En) : Option Sv → Out D
  | some (.ow (.lst true _)) => (f ρ).bind fun j ρ1 => match ρ1.vs[i]?, j with
    | some (.ow (.lst true ds)), .int k => if 0 ≤ k ∧ k < ds.length ∧ ds.length < 2 ^ 62 then match ds[k.toNat]? with
      | some x => .ok x { ρ1 with vs := ρ1.vs.set i (.ow (.lst true (ds.eraseIdx k.toNat))) }
      | none => .no
      else .no
    | _, _ => .no
  | _ => .no
def patK1 (i : Nat) : Out D → Out D
  | .ok j ρ1 => match ρ1.vs[i]?, j with
    | some (.ow (.lst true ds)), .int k => if 0 ≤ k ∧ k < ds.length ∧ ds.length < 2 ^ 62 then match ds[k.toNat]? with
      | some x => .ok x { ρ1 with vs := ρ1.vs.set i (.ow (.lst true (ds.eraseIdx k.toNat))) }
      | none => .no
      else .no
    | _, _ => .no
  | .ex x ρ => .ex x ρ
  | .no => .no
def patK2 (i : Nat) (k : Int) (ρ1 : En) : Option Sv → Out D
  | some (.ow (.lst true ds)) => if 0 ≤ k ∧ k < ds.length ∧ ds.length < 2 ^ 62 then match ds[k.toNat]? with
      | some x => .ok x { ρ1 with vs := ρ1.vs.set i (.ow (.lst true (ds.eraseIdx k.toNat))) }
      | none => .no
      else .no
  | _ => .no
@[simp] theorem evPopAt_eq (i : Nat) (f : En → Out D) (vs : List Sv) (st : RSt) : evPopAt i f ⟨vs, st⟩ = patK i f ⟨vs, st⟩ vs[i]? := by
  rw [evPopAt]; dsimp only
  rcases vs[i]? with _ | (_ | d | d)
  · rfl
  · rfl
  · rfl
  · rcases d with _ | b | i | x | ⟨o, xs⟩ | xs | ⟨o, ks, xs⟩ | ⟨o, ks, xs⟩ | _ | ⟨o, C, fs, xs⟩ | ⟨C, fs, xs⟩ <;> first | rfl | (cases o <;> rfl)
@[simp] theorem patK_ok (i : Nat) (f : En → Out D) (ρ : En) (ds : List D) : patK i f ρ (some (.ow (.lst true ds))) = patK1 i (f ρ) := by
  rw [patK, patK1.eq_def]; cases f ρ <;> rfl
@[simp] theorem patK1_ok (i : Nat) (k : Int) (vs : List Sv) (st : RSt) : patK1 i (.ok (.int k) ⟨vs, st⟩) = patK2 i k ⟨vs, st⟩ vs[i]? := by
  unfold patK1; dsimp only
  rcases vs[i]? with _ | (_ | d | d)
  · rfl
  · rfl
  · rfl
  · rcases d with _ | b | i | x | ⟨o, xs⟩ | xs | ⟨o, ks, xs⟩ | ⟨o, ks, xs⟩ | _ | ⟨o, C, fs, xs⟩ | ⟨C, fs, xs⟩ <;> first | rfl | (cases o <;> rfl)
theorem patK2_ok {i : Nat} {k : Int} {vs : List Sv} {st : RSt} {ds : List D} (h0 : 0 ≤ k) (h1 : k < ds.length) (h2 : ds.length < 2 ^ 62) : patK2 i k ⟨vs, st⟩ (some (.ow (.lst true ds))) = .ok (ds[k.toNat]'(by omega)) ⟨vs.set i (.ow (.lst true (ds.eraseIdx k.toNat))), st⟩ := by
  rw [patK2, if_pos ⟨h0, h1, h2⟩, List.getElem?_eq_getElem (by omega)]
def chK1 (c1 c2 : Int → Int → Bool) (g h : En → Out D) : Out D → Out D
  | .ok x ρ1 => (g ρ1).bind fun y ρ2 => match x, y with
    | .int i, .int j => if c1 i j = true then (h ρ2).bind fun z ρ3 => match z with
        | .int k => .ok (.bl (c2 j k)) ρ3
        | _ => .no
      else .ok (.bl false) ρ2
    | _, _ => .no
  | .ex x ρ => .ex x ρ
  | .no => .no
def chK2 (c1 c2 : Int → Int → Bool) (h : En → Out D) (i : Int) : Out D → Out D
  | .ok (.int j) ρ2 => if c1 i j = true then (h ρ2).bind fun z ρ3 => match z with
        | .int k => .ok (.bl (c2 j k)) ρ3
        | _ => .no
      else .ok (.bl false) ρ2
  | .ex x ρ => .ex x ρ
  | _ => .no
def chK3 (c2 : Int → Int → Bool) (h : En → Out D) (j : Int) (ρ2 : En) : Bool → Out D
  | true => (h ρ2).bind fun z ρ3 => match z with
        | .int k => .ok (.bl (c2 j k)) ρ3
        | _ => .no
  | false => .ok (.bl false) ρ2
def chK4 (c2 : Int → Int → Bool) (j : Int) : Out D → Out D
  | .ok (.int k) ρ3 => .ok (.bl (c2 j k)) ρ3
  | .ex x ρ => .ex x ρ
  | _ => .no
@[simp] theorem evChI_eq (c1 c2 : Int → Int → Bool) (f g h : En → Out D) (ρ : En) : evChI c1 c2 f g h ρ = chK1 c1 c2 g h (f ρ) := by
  rw [evChI, chK1.eq_def]; cases f ρ <;> rfl
@[simp] theorem chK1_ok (c1 c2 : Int → Int → Bool) (g h : En → Out D) (i : Int) (ρ : En) : chK1 c1 c2 g h (.ok (.int i) ρ) = chK2 c1 c2 h i (g ρ) := by
  rw [chK1, chK2.eq_def]
  cases g ρ with
  | ok y ρ2 => cases y <;> rfl
  | _ => rfl
@[simp] theorem chK2_ok (c1 c2 : Int → Int → Bool) (h : En → Out D) (i j : Int) (ρ : En) : chK2 c1 c2 h i (.ok (.int j) ρ) = chK3 c2 h j ρ (c1 i j) := by
  rw [chK2, chK3.eq_def]
  cases c1 i j <;> rfl
@[simp] theorem chK3_t (c2 : Int → Int → Bool) (h : En → Out D) (j : Int) (ρ : En) : chK3 c2 h j ρ true = chK4 c2 j (h ρ) := by
  rw [chK3, chK4.eq_def]
  cases h ρ with
  | ok y ρ2 => cases y <;> rfl
  | _ => rfl
@[simp] theorem chK3_f (c2 : Int → Int → Bool) (h : En → Out D) (j : Int) (ρ : En) : chK3 c2 h j ρ false = .ok (.bl false) ρ := (rfl)
@[simp] theorem chK4_ok (c2 : Int → Int → Bool) (j k : Int) (ρ : En) : chK4 c2 j (.ok (.int k) ρ) = .ok (.bl (c2 j k)) ρ := (rfl)
def parK1 (i j : Nat) (g : En → Out D) : Out D → Out Fl
  | .ok x ρ1 => (g ρ1).bind fun y ρ2 => .ok .nx { ρ2 with vs := (ρ2.vs.set j (mkSv y)).set i (mkSv x) }
  | .ex x ρ => .ex x ρ
  | .no => .no
def parK2 (i j : Nat) (x : D) : Out D → Out Fl
  | .ok y ρ2 => .ok .nx { ρ2 with vs := (ρ2.vs.set j (mkSv y)).set i (mkSv x) }
  | .ex x ρ => .ex x ρ
  | .no => .no
@[simp] theorem sPar_eq (i j : Nat) (f g : En → Out D) (ρ : En) : sPar i j f g ρ = parK1 i j g (f ρ) := by
  rw [sPar, parK1.eq_def]; cases f ρ <;> rfl
@[simp] theorem parK1_ok (i j : Nat) (g : En → Out D) (x : D) (ρ : En) : parK1 i j g (.ok x ρ) = parK2 i j x (g ρ) := by
  rw [parK1, parK2.eq_def]; cases g ρ <;> rfl
@[simp] theorem parK2_ok (i j : Nat) (x y : D) (vs : List Sv) (st : RSt) : parK2 i j x (.ok y ⟨vs, st⟩) = .ok .nx ⟨(vs.set j (mkSv y)).set i (mkSv x), st⟩ := (rfl)
def augK (i : Nat) (k : Int → Int → Int) (f : En → Out D) (ρ : En) : Option Sv → Out Fl
  | some (.sh (.int x)) => (f ρ).bind fun y ρ1 => match y with
    | .int j => .ok .nx { ρ1 with vs := ρ1.vs.set i (mkSv (.int (k x j))) }
    | _ => .no
  | _ => .no
def augK1 (i : Nat) (k : Int → Int → Int) (x : Int) : Out D → Out Fl
  | .ok (.int j) ρ1 => .ok .nx { ρ1 with vs := ρ1.vs.set i (mkSv (.int (k x j))) }
  | .ex x ρ => .ex x ρ
  | _ => .no
@[simp] theorem sAug_eq (i : Nat) (k : Int → Int → Int) (f : En → Out D) (vs : List Sv) (st : RSt) : sAug i k f ⟨vs, st⟩ = augK i k f ⟨vs, st⟩ vs[i]? := by
  rw [sAug]; dsimp only
  rcases vs[i]? with _ | (_ | d | d)
  · rfl
  · rfl
  · cases d <;> rfl
  · rfl
@[simp] theorem augK_ok (i : Nat) (k : Int → Int → Int) (f : En → Out D) (ρ : En) (x : Int) : augK i k f ρ (some (.sh (.int x))) = augK1 i k x (f ρ) := by
  rw [augK, augK1.eq_def]
  cases f ρ with
  | ok y ρ2 => cases y <;> rfl
  | _ => rfl
@[simp] theorem augK1_ok (i : Nat) (k : Int → Int → Int) (x j : Int) (vs : List Sv) (st : RSt) : augK1 i k x (.ok (.int j) ⟨vs, st⟩) = .ok .nx ⟨vs.set i (.sh (.int (k x j))), st⟩ := by
  rw [augK1]; simp
def getK (i : Nat) (fk fe : En → Out D) (ρ : En) : Option D → Out D
  | some (.dk _ _ _) => (fk ρ).bind fun k ρ1 => (fe ρ1).bind fun x ρ2 => match ρ2.vs[i]?.bind Sv.get? with
    | some (.dk _ ks xs) => match keyD k with
      | some q => match getD ks xs q with
        | some y => if shr y = true then .ok y ρ2 else .no
        | none => .ok x ρ2
      | none => .no
    | _ => .no
  | _ => .no
def getK1 (i : Nat) (fe : En → Out D) : Out D → Out D
  | .ok k ρ1 => (fe ρ1).bind fun x ρ2 => match ρ2.vs[i]?.bind Sv.get? with
    | some (.dk _ ks xs) => match keyD k with
      | some q => match getD ks xs q with
        | some y => if shr y = true then .ok y ρ2 else .no
        | none => .ok x ρ2
      | none => .no
    | _ => .no
  | .ex x ρ => .ex x ρ
  | .no => .no
def getK2 (i : Nat) (k : D) : Out D → Out D
  | .ok x ρ2 => match ρ2.vs[i]?.bind Sv.get? with
    | some (.dk _ ks xs) => match keyD k with
      | some q => match getD ks xs q with
        | some y => if shr y = true then .ok y ρ2 else .no
        | none => .ok x ρ2
      | none => .no
    | _ => .no
  | .ex x ρ => .ex x ρ
  | .no => .no
def getK3 (k x : D) (ρ2 : En) : Option D → Out D
  | some (.dk _ ks xs) => match keyD k with
      | some q => match getD ks xs q with
        | some y => if shr y = true then .ok y ρ2 else .no
        | none => .ok x ρ2
      | none => .no
  | _ => .no
@[simp] theorem evGet2_eq (i : Nat) (fk fe : En → Out D) (vs : List Sv) (st : RSt) : evGet2 i fk fe ⟨vs, st⟩ = getK i fk fe ⟨vs, st⟩ (vs[i]?.bind Sv.get?) := by
  rw [evGet2]; dsimp only
  rcases vs[i]?.bind Sv.get? with _ | d
  · rfl
  · cases d <;> rfl
@[simp] theorem getK_ok (i : Nat) (fk fe : En → Out D) (ρ : En) (o : Bool) (ks : List Key) (xs : List D) : getK i fk fe ρ (some (.dk o ks xs)) = getK1 i fe (fk ρ) := by
  rw [getK, getK1.eq_def]; cases fk ρ <;> rfl
@[simp] theorem getK1_ok (i : Nat) (fe : En → Out D) (k : D) (ρ : En) : getK1 i fe (.ok k ρ) = getK2 i k (fe ρ) := by
  rw [getK1, getK2.eq_def]; cases fe ρ <;> rfl
@[simp] theorem getK2_ok (i : Nat) (k x : D) (vs : List Sv) (st : RSt) : getK2 i k (.ok x ⟨vs, st⟩) = getK3 k x ⟨vs, st⟩ (vs[i]?.bind Sv.get?) := by
  rw [getK2]; dsimp only
  rcases vs[i]?.bind Sv.get? with _ | d
  · rfl
  · cases d <;> rfl
def eaK : Out D → Out (List D)
  | .ok d ρ' => match seqOf d with
    | some p => .ok (enD 0 p.2) ρ'
    | none => .no
  | .ex x ρ => .ex x ρ
  | .no => .no
def eaK2 (ρ : En) : Option (Bool × List D) → Out (List D)
  | some p => .ok (enD 0 p.2) ρ
  | none => .no
@[simp] theorem itEnA_eq (f : En → Out D) (ρ : En) : itEnA f ρ = eaK (f ρ) := by
  rw [itEnA, eaK.eq_def]; cases f ρ <;> rfl
@[simp] theorem eaK_ok (d : D) (ρ : En) : eaK (.ok d ρ) = eaK2 ρ (seqOf d) := by
  rw [eaK, eaK2.eq_def]; first | done | (cases seqOf d <;> rfl)
@[simp] theorem eaK_ex (x : Exc) (ρ : En) : eaK (.ex x ρ) = .ex x ρ := (rfl)
@[simp] theorem eaK2_some (p : Bool × List D) (ρ : En) : eaK2 ρ (some p) = .ok (enD 0 p.2) ρ := (rfl)
@[simp] theorem opIsNB_b (a b : Bool) : opIsNB [.bl a, .bl b] = some (.bl (!decide (a = b))) := (rfl)
def ldK (κ : KI) (t : D → En → Option En) (c : En → Out Bool) (elt : En → Out D) (own : List Nat) : Out D → Out D
  | .ok d ρ1 => match viewD κ d with
    | some ds => lstK (noEx (lcL t c elt own ds { ρ1 with vs := fgt ρ1.vs own }))
    | none => .no
  | .ex x ρ => .ex x ρ
  | .no => .no
def ld2 (t : D → En → Option En) (c : En → Out Bool) (elt : En → Out D) (own : List Nat) (ρ1 : En) : Option (List D) → Out D
  | some ds => lstK (noEx (lcL t c elt own ds { ρ1 with vs := fgt ρ1.vs own }))
  | none => .no
@[simp] theorem evLcD_eq (κ : KI) (i : Nat) (t : D → En → Option En) (c : En → Out Bool) (elt : En → Out D) (own : List Nat) (ρ : En) : evLcD κ i t c elt own ρ = ldK κ t c elt own (evVar i ρ) := by
  rw [evLcD, ldK.eq_def]
  cases evVar i ρ with
  | ok d ρ1 =>
    simp only [Out.bind]
    cases viewD κ d with
    | none => rfl
    | some ds => simp only; cases noEx (lcL t c elt own ds { ρ1 with vs := fgt ρ1.vs own }) <;> rfl
  | _ => rfl
@[simp] theorem ldK_ok (κ : KI) (t : D → En → Option En) (c : En → Out Bool) (elt : En → Out D) (own : List Nat) (d : D) (ρ : En) : ldK κ t c elt own (.ok d ρ) = ld2 t c elt own ρ (viewD κ d) := by
  rw [ldK, ld2.eq_def]; first | done | (cases viewD κ d <;> rfl)
@[simp] theorem ld2_some (t : D → En → Option En) (c : En → Out Bool) (elt : En → Out D) (own : List Nat) (ds : List D) (vs : List Sv) (st : RSt) : ld2 t c elt own ⟨vs, st⟩ (some ds) = lstK (noEx (lcL t c elt own ds ⟨fgt vs own, st⟩)) := (rfl)
@[simp] theorem noEx_okK {α : Type} (a : α) (ρ : En) : noEx (.ok a ρ : Out α) = .ok a ρ := (rfl)
end Fw

namespace Fw
open PySem L2
@[irreducible] def Ob {α : Type} (o : Out α) (Q : α → En → Prop) : Prop := match o with
  | .ok a ρ => Q a ρ
  | _ => False
@[simp] theorem Ob_ok {α : Type} (a : α) (ρ : En) (Q : α → En → Prop) : Ob (.ok a ρ) Q = Q a ρ := by rw [Ob]
theorem Ob_ex {α : Type} (a : Exc) (ρ : En) (Q : α → En → Prop) : Ob (.ex a ρ) Q = False := by rw [Ob]; nofun
theorem Ob_no {α : Type} (Q : α → En → Prop) : Ob .no Q = False := by rw [Ob]; nofun
theorem Ob_iff {α : Type} {o : Out α} {Q : α → En → Prop} : Ob o Q ↔ ∃ a ρ, o = .ok a ρ ∧ Q a ρ := by
  cases o with
  | ok a ρ => rw [Ob_ok]; exact ⟨fun h => ⟨a, ρ, rfl, h⟩, fun ⟨_, _, e, h⟩ => by cases e; exact h⟩
  | ex x ρ => rw [Ob_ex]; exact ⟨fun h => h.elim, fun ⟨_, _, e, h⟩ => by cases e⟩
  | no => rw [Ob_no]; exact ⟨fun h => h.elim, fun ⟨_, _, e, h⟩ => by cases e⟩
theorem Ob.mono {α : Type} {o : Out α} {Q Q' : α → En → Prop} (h : Ob o Q) (k : ∀ a ρ, Q a ρ → Q' a ρ) : Ob o Q' := by
  obtain ⟨a, ρ, e, q⟩ := Ob_iff.mp h
  exact Ob_iff.mpr ⟨a, ρ, e, k _ _ q⟩
@[irreducible] def Rb (r : Res) (Q : D → RSt → Prop) : Prop := match r with
  | .ok d st => Q d st
  | _ => False
@[simp] theorem Rb_ok (d : D) (st : RSt) (Q : D → RSt → Prop) : Rb (.ok d st) Q = Q d st := by rw [Rb]
theorem Rb_ex (x : Exc) (st : RSt) (Q : D → RSt → Prop) : Rb (.ex x st) Q = False := by rw [Rb]; nofun
theorem Rb_no (Q : D → RSt → Prop) : Rb .no Q = False := by rw [Rb]; nofun
theorem Rb_iff {r : Res} {Q : D → RSt → Prop} : Rb r Q ↔ ∃ d st, r = .ok d st ∧ Q d st := by
  cases r with
  | ok a ρ => rw [Rb_ok]; exact ⟨fun h => ⟨a, ρ, rfl, h⟩, fun ⟨_, _, e, h⟩ => by cases e; exact h⟩
  | ex x ρ => rw [Rb_ex]; exact ⟨fun h => h.elim, fun ⟨_, _, e, h⟩ => by cases e⟩
  | no => rw [Rb_no]; exact ⟨fun h => h.elim, fun ⟨_, _, e, h⟩ => by cases e⟩
def rtQ (Q : D → RSt → Prop) (fl : Fl) (ρ : En) : Prop := match fl with | .nx => Q .non ρ.st | .rt d => Q d ρ.st | _ => False
@[simp] theorem rtQ_rt (Q : D → RSt → Prop) (d : D) (vs : List Sv) (st : RSt) : rtQ Q (.rt d) ⟨vs, st⟩ = Q d st := (rfl)
@[simp] theorem rtQ_nx (Q : D → RSt → Prop) (vs : List Sv) (st : RSt) : rtQ Q .nx ⟨vs, st⟩ = Q .non st := (rfl)
theorem Rb.of {g : En → Out Fl} {k : Nat} {ds : List D} {st : RSt} {Q : D → RSt → Prop} (h : Ob (g ⟨ds.map .sh ++ List.replicate k .no, st⟩) (rtQ Q)) : Rb (fnRes g k ds st) Q := by
  obtain ⟨fl, ρ, e, q⟩ := Ob_iff.mp h
  obtain ⟨vs, st'⟩ := ρ
  rw [fnRes_eq, e]
  cases fl with
  | nx => rw [fnK_nx, Rb_ok]; exact q
  | rt d => rw [fnK_rt, Rb_ok]; exact q
  | bk => exact q.elim
  | ct => exact q.elim
theorem forL_inv {α : Type} {t : D → En → Option En} {body : En → Out Fl} {fg : List Nat} {toD : α → D} (I : List α → En → Prop) : ∀ (xs done : List α) (ρ : En), I done ρ →
    (∀ pre x post ρ, done ++ xs = pre ++ x :: post → I pre ρ → ∃ ρ1, t (toD x) ρ = some ρ1 ∧ Ob (body ρ1) fun fl ρ2 => (fl = .nx ∨ fl = .ct) ∧ I (pre ++ [x]) ⟨fgt ρ2.vs fg, ρ2.st⟩) →
    ∃ ρ', forL t body fg (xs.map toD) ρ = .ok .nx ρ' ∧ I (done ++ xs) ρ'
  | [], done, ρ, h0, _ => ⟨ρ, rfl, by simpa using h0⟩
  | x :: xs, done, ρ, h0, step => by
    obtain ⟨ρ1, e1, h1⟩ := step done x xs ρ rfl h0
    obtain ⟨fl, ρ2, e2, hfl, h2⟩ := Ob_iff.mp h1
    obtain ⟨ρ', e3, h3⟩ := forL_inv I xs (done ++ [x]) ⟨fgt ρ2.vs fg, ρ2.st⟩ h2 (fun pre y post ρ e => step pre y post ρ (by rw [← e]; simp))
    refine ⟨ρ', ?_, by simpa using h3⟩
    rw [List.map_cons, forL_cons, e1, flKo_some, e2]
    obtain ⟨vs, st⟩ := ρ2
    rcases hfl with rfl | rfl
    · rw [flK_nx]; exact e3
    · rw [flK_ct]; exact e3
theorem forL_inv2 {α : Type} {t : D → En → Option En} {body : En → Out Fl} {fg : List Nat} {toD : α → D} (I : List α → En → Prop) (Z : Fl → En → Prop) : ∀ (xs done : List α) (ρ : En), I done ρ →
    (∀ pre x post ρ, done ++ xs = pre ++ x :: post → I pre ρ → ∃ ρ1, t (toD x) ρ = some ρ1 ∧ Ob (body ρ1) fun fl ρ2 => match fl with | .nx => I (pre ++ [x]) ⟨fgt ρ2.vs fg, ρ2.st⟩ | .ct => I (pre ++ [x]) ⟨fgt ρ2.vs fg, ρ2.st⟩ | .bk => Z .nx ρ2 | .rt d => Z (.rt d) ρ2) →
    Ob (forL t body fg (xs.map toD) ρ) fun fl ρ' => (fl = .nx ∧ I (done ++ xs) ρ') ∨ Z fl ρ'
  | [], done, ρ, h0, _ => by rw [List.map_nil, forL_nil, Ob_ok]; exact .inl ⟨rfl, by simpa using h0⟩
  | x :: xs, done, ρ, h0, step => by
    obtain ⟨ρ1, e1, h1⟩ := step done x xs ρ rfl h0
    obtain ⟨fl, ρ2, e2, h2⟩ := Ob_iff.mp h1
    rw [List.map_cons, forL_cons, e1, flKo_some, e2]
    obtain ⟨vs, st⟩ := ρ2
    cases fl with
    | nx =>
      rw [flK_nx]
      have := forL_inv2 I Z xs (done ++ [x]) ⟨fgt vs fg, st⟩ h2 (fun pre y post ρ e => step pre y post ρ (by rw [← e]; simp))
      simpa using this
    | ct =>
      rw [flK_ct]
      have := forL_inv2 I Z xs (done ++ [x]) ⟨fgt vs fg, st⟩ h2 (fun pre y post ρ e => step pre y post ρ (by rw [← e]; simp))
      simpa using this
    | bk => rw [flK_bk, Ob_ok]; exact .inr h2
    | rt d => rw [flK_rt, Ob_ok]; exact .inr h2
theorem ob_forL {α : Type} {t : D → En → Option En} {body : En → Out Fl} {fg : List Nat} {toD : α → D} {xs : List α} {ρ : En} {Q : Fl → En → Prop} (I : List α → En → Prop) (h0 : I [] ρ)
    (step : ∀ pre x post ρ, xs = pre ++ x :: post → I pre ρ → ∃ ρ1, t (toD x) ρ = some ρ1 ∧ Ob (body ρ1) fun fl ρ2 => (fl = .nx ∨ fl = .ct) ∧ I (pre ++ [x]) ⟨fgt ρ2.vs fg, ρ2.st⟩)
    (k : ∀ ρ', I xs ρ' → Q .nx ρ') : Ob (forL t body fg (xs.map toD) ρ) Q := by
  obtain ⟨ρ', e, h⟩ := forL_inv I xs [] ρ h0 (fun pre x post ρ e => step pre x post ρ e)
  rw [e, Ob_ok]; exact k ρ' h
theorem ob_for {α : Type} {t : D → En → Option En} {body g : En → Out Fl} {fg : List Nat} {toD : α → D} {xs : List α} {ρ : En} {Q : Fl → En → Prop} (I : List α → En → Prop) (h0 : I [] ρ)
    (step : ∀ pre x post ρ, xs = pre ++ x :: post → I pre ρ → ∃ ρ1, t (toD x) ρ = some ρ1 ∧ Ob (body ρ1) fun fl ρ2 => (fl = .nx ∨ fl = .ct) ∧ I (pre ++ [x]) ⟨fgt ρ2.vs fg, ρ2.st⟩)
    (k : ∀ ρ', I xs ρ' → Ob (g ρ') Q) : Ob (sqK g (forL t body fg (xs.map toD) ρ)) Q := by
  obtain ⟨ρ', e, h⟩ := forL_inv I xs [] ρ h0 (fun pre x post ρ e => step pre x post ρ e)
  rw [e, sqK_nx]; exact k ρ' h
@[simp] theorem Ob_noEx {α : Type} {o : Out α} {Q : α → En → Prop} : Ob (noEx o) Q = Ob o Q := by
  cases o with
  | ok a ρ => rfl
  | ex x ρ => rw [Ob_ex]; exact Ob_no Q
  | no => rfl
def lcS (t : D → En → Option En) (c : En → Out Bool) (elt : En → Out D) (own : List Nat) (d : D) (ρ : En) : Out (Option D) := match t d ρ with
  | none => .no
  | some ρ1 => (noEx (c ρ1)).bind fun b ρ2 => if b = true then (noEx (elt ρ2)).bind fun y ρ3 => .ok (some y) { ρ3 with vs := fgt ρ3.vs own } else .ok none { ρ2 with vs := fgt ρ2.vs own }
def lcS1 (c : En → Out Bool) (elt : En → Out D) (own : List Nat) : Option En → Out (Option D)
  | none => .no
  | some ρ1 => (noEx (c ρ1)).bind fun b ρ2 => if b = true then (noEx (elt ρ2)).bind fun y ρ3 => .ok (some y) { ρ3 with vs := fgt ρ3.vs own } else .ok none { ρ2 with vs := fgt ρ2.vs own }
def lcS2 (elt : En → Out D) (own : List Nat) : Out Bool → Out (Option D)
  | .ok true ρ2 => (noEx (elt ρ2)).bind fun y ρ3 => .ok (some y) { ρ3 with vs := fgt ρ3.vs own }
  | .ok false ρ2 => .ok none { ρ2 with vs := fgt ρ2.vs own }
  | _ => .no
def lcS3 (own : List Nat) : Out D → Out (Option D)
  | .ok y ρ3 => .ok (some y) { ρ3 with vs := fgt ρ3.vs own }
  | _ => .no
@[simp] theorem lcS_eq (t : D → En → Option En) (c : En → Out Bool) (elt : En → Out D) (own : List Nat) (d : D) (ρ : En) : lcS t c elt own d ρ = lcS1 c elt own (t d ρ) := by
  rw [lcS, lcS1.eq_def]
@[simp] theorem lcS1_some (c : En → Out Bool) (elt : En → Out D) (own : List Nat) (ρ : En) : lcS1 c elt own (some ρ) = lcS2 elt own (c ρ) := by
  rw [lcS1]
  cases c ρ with
  | ok b ρ => cases b <;> rfl
  | _ => rfl
@[simp] theorem lcS2_t (elt : En → Out D) (own : List Nat) (ρ : En) : lcS2 elt own (.ok true ρ) = lcS3 own (elt ρ) := by
  rw [lcS2]; cases elt ρ <;> rfl
@[simp] theorem lcS2_f (elt : En → Out D) (own : List Nat) (vs : List Sv) (st : RSt) : lcS2 elt own (.ok false ⟨vs, st⟩) = .ok none ⟨fgt vs own, st⟩ := (rfl)
@[simp] theorem lcS3_ok (own : List Nat) (y : D) (vs : List Sv) (st : RSt) : lcS3 own (.ok y ⟨vs, st⟩) = .ok (some y) ⟨fgt vs own, st⟩ := (rfl)
def lcCons : Option D → Out (List D) → Out (List D)
  | some y, .ok ys ρ => .ok (y :: ys) ρ
  | none, .ok ys ρ => .ok ys ρ
  | _, .ex x ρ => .ex x ρ
  | _, .no => .no
theorem lcL_cons {t : D → En → Option En} {c : En → Out Bool} {elt : En → Out D} {own : List Nat} {d : D} {ds : List D} {ρ ρ' : En} {o : Option D} (h : lcS t c elt own d ρ = .ok o ρ') : lcL t c elt own (d :: ds) ρ = lcCons o (lcL t c elt own ds ρ') := by
  rw [lcS_eq] at h
  rw [lcL]
  cases e : t d ρ with
  | none => rw [e] at h; cases h
  | some ρ1 =>
    rw [e, lcS1_some] at h
    simp only
    cases e2 : c ρ1 with
    | ok b ρ2 =>
      rw [e2] at h
      obtain ⟨vs2, st2⟩ := ρ2
      cases b with
      | true =>
        rw [lcS2_t] at h
        simp only [noEx, Out.bind, if_pos]
        cases e3 : elt ⟨vs2, st2⟩ with
        | ok y ρ3 =>
          obtain ⟨vs3, st3⟩ := ρ3
          rw [e3, lcS3_ok] at h
          cases h
          simp only [noEx, Out.bind]
          cases lcL t c elt own ds ⟨fgt vs3 own, st3⟩ <;> rfl
        | ex x ρ3 => rw [e3] at h; cases h
        | no => rw [e3] at h; cases h
      | false =>
        rw [lcS2_f] at h
        cases h
        simp only [noEx, Out.bind]
        cases lcL t c elt own ds ⟨fgt vs2 own, st2⟩ <;> rfl
    | ex x ρ2 => rw [e2] at h; cases h
    | no => rw [e2] at h; cases h
theorem lc_fm {α : Type} {t : D → En → Option En} {c : En → Out Bool} {elt : En → Out D} {own : List Nat} {toD : α → D} {xs : List α} {ρ : En} (p : α → Bool) (f : α → D)
    (h : ∀ x ∈ xs, lcS t c elt own (toD x) ρ = .ok (if p x = true then some (f x) else none) ρ) : lcL t c elt own (xs.map toD) ρ = .ok ((xs.filter p).map f) ρ := by
  induction xs with
  | nil => rfl
  | cons x xs ih =>
    rw [List.map_cons, lcL_cons (h x List.mem_cons_self), ih fun y hy => h y (List.mem_cons_of_mem _ hy)]
    by_cases hp : p x = true
    · rw [if_pos hp, List.filter_cons_of_pos hp]; rfl
    · rw [if_neg hp, List.filter_cons_of_neg hp]; rfl
theorem lc_map {α : Type} {t : D → En → Option En} {c : En → Out Bool} {elt : En → Out D} {own : List Nat} {toD : α → D} {xs : List α} {ρ : En} (f : α → D)
    (h : ∀ x ∈ xs, lcS t c elt own (toD x) ρ = .ok (some (f x)) ρ) : lcL t c elt own (xs.map toD) ρ = .ok (xs.map f) ρ := by
  induction xs with
  | nil => rfl
  | cons x xs ih =>
    rw [List.map_cons, lcL_cons (h x List.mem_cons_self), ih fun y hy => h y (List.mem_cons_of_mem _ hy)]
    rfl
def Gd (r : Nat) (st : RSt) : Prop := st.cells ≠ [] ∧ st.cells.length ≤ 63 ∧ 0 ≤ st.turn ∧ st.turn + r < 2 ^ 60
theorem Gd.mono {r r' : Nat} {st : RSt} (h : Gd r st) (k : r' ≤ r) : Gd r' st := ⟨h.1, h.2.1, h.2.2.1, by have := h.2.2.2; omega⟩
theorem take_gd {st : RSt} {n : Int} {r : Nat} (g : Gd (r + 1) st) (h0 : 0 < n) (h1 : n < 1073741824) : ∃ x st', takeD [.rs, .int n] st = .ok (.int x) st' ∧ 0 ≤ x ∧ x < n ∧ Gd r st' := by
  obtain ⟨g1, g2, g3, g4⟩ := g
  have hl : 0 < st.cells.length := List.length_pos_iff.mpr g1
  have ok : takeOk st n = true := by
    unfold takeOk
    simp only [Bool.and_eq_true, decide_eq_true_eq]
    refine ⟨⟨⟨⟨⟨h0, h1⟩, g3⟩, ?_⟩, hl⟩, g2⟩
    omega
  refine ⟨_, _, if_pos ok, (takeF_range st n h0).1, (takeF_range st n h0).2, ?_, ?_, ?_, ?_⟩
  · intro z
    have := takeF_cells st n
    rw [z] at this
    simp at this
    omega
  · rw [takeF_cells]; exact g2
  · rw [takeF_turn]; omega
  · rw [takeF_turn]; omega
theorem gd_start (ns : List Int) (h : ns.length ≤ 63) : Gd (2 ^ 50) ⟨cellsF ns, 0⟩ := by
  unfold cellsF
  refine ⟨?_, ?_, Int.le_refl _, by show (0 : Int) + ((2 ^ 50 : Nat) : Int) < 2 ^ 60; decide⟩
  · show (if ns = [] then [7] else ns) ≠ []
    split
    · simp
    · assumption
  · show (if ns = [] then [7] else ns).length ≤ 63
    split
    · simp
    · exact h
theorem lc_rand {α β : Type} {t : D → En → Option En} {c : En → Out Bool} {elt : En → Out D} {own : List Nat} {toD : α → D} {vs : List Sv} (f : β → D) (P : α → β → Prop) (k : Nat) : ∀ {xs : List α} {st : RSt} {r : Nat},
    (∀ x ∈ xs, ∀ r st, Gd (r + k) st → Ob (lcS t c elt own (toD x) ⟨vs, st⟩) fun o ρ' => ∃ y, o = some (f y) ∧ ρ'.vs = vs ∧ P x y ∧ Gd r ρ'.st) →
    Gd (r + k * xs.length) st → ∃ (ys : List β) (st' : RSt), lcL t c elt own (xs.map toD) ⟨vs, st⟩ = .ok (ys.map f) ⟨vs, st'⟩ ∧ ys.length = xs.length ∧ (∀ (i : Nat) (x : α) (y : β), xs[i]? = some x → ys[i]? = some y → P x y) ∧ Gd r st'
  | [], st, r, _, g => ⟨[], st, rfl, rfl, fun i x y h => by simp at h, by simpa using g⟩
  | x :: xs, st, r, h, g => by
    obtain ⟨o, ρ', e, y, ho, hv, hp, g1⟩ := Ob_iff.mp (h x List.mem_cons_self (r + k * xs.length) st (by
      rw [List.length_cons, Nat.mul_add, Nat.mul_one] at g
      rwa [← Nat.add_assoc] at g))
    subst ho
    obtain ⟨vs', st'⟩ := ρ'
    dsimp only at hv g1
    subst hv
    obtain ⟨ys, st2, e2, hl, hq, g2⟩ := lc_rand f P k (r := r) (fun x hx => h x (List.mem_cons_of_mem _ hx)) g1
    refine ⟨y :: ys, st2, ?_, by simp [hl], fun i x' y' h1 h2 => ?_, g2⟩
    · rw [List.map_cons, lcL_cons e, e2]; rfl
    · cases i with
      | zero => simp at h1 h2; subst h1; subst h2; exact hp
      | succ i => exact hq i x' y' (by simpa using h1) (by simpa using h2)
theorem lc_rd {α β : Type} {t : D → En → Option En} {c : En → Out Bool} {elt : En → Out D} {own : List Nat} {toD : α → D} {vs : List Sv} {xs : List α} {st : RSt} {L : Out (List D)} (e : lcL t c elt own (xs.map toD) ⟨vs, st⟩ = L) (f : β → D) (P : α → β → Prop) (k r : Nat)
    (g : Gd (r + k * xs.length) st)
    (h : ∀ x ∈ xs, ∀ r st, Gd (r + k) st → Ob (lcS t c elt own (toD x) ⟨vs, st⟩) fun o ρ' => ∃ y, o = some (f y) ∧ ρ'.vs = vs ∧ P x y ∧ Gd r ρ'.st) :
    ∃ (ys : List β) (st' : RSt), L = .ok (ys.map f) ⟨vs, st'⟩ ∧ ys.length = xs.length ∧ (∀ (i : Nat) (x : α) (y : β), xs[i]? = some x → ys[i]? = some y → P x y) ∧ Gd r st' := by
  rw [← e]; exact lc_rand f P k h g
@[simp] theorem shrL_map' {α : Type} {f : α → D} {xs : List α} (h : ∀ x ∈ xs, shr (f x) = true) : shrL (xs.map f) = true := shrL_all.mpr fun d hd => by
  obtain ⟨x, hx, rfl⟩ := List.mem_map.mp hd
  exact h x hx
@[simp] theorem frzL_map' {α : Type} {f : α → D} {xs : List α} : frzL (xs.map f) = xs.map fun x => frz (f x) := by
  induction xs with
  | nil => simp
  | cons x xs ih => simp [ih]
@[simp] theorem cloL_map' {α : Type} {f : α → D} {xs : List α} (h : ∀ x ∈ xs, clo (f x) = true) : cloL (xs.map f) = true := by
  induction xs with
  | nil => simp
  | cons x xs ih => simp [h x List.mem_cons_self, ih fun y hy => h y (List.mem_cons_of_mem _ hy)]
@[simp] theorem frzL_append (a b : List D) : frzL (a ++ b) = frzL a ++ frzL b := by
  induction a with
  | nil => simp
  | cons x xs ih => simp [ih]
@[simp] theorem cloL_append (a b : List D) : cloL (a ++ b) = (cloL a && cloL b) := by
  induction a with
  | nil => simp
  | cons x xs ih => simp [ih, Bool.and_assoc]
@[simp] theorem seqOf_ts {xs : List D} (h : shrL xs = true) : seqOf (.tup xs) = some (false, xs) := seqOf_tp' h
@[simp] theorem seqOf_ls {o : Bool} {xs : List D} (h : shrL xs = true) : seqOf (.lst o xs) = some (true, xs) := by
  cases o
  · rfl
  · exact seqOf_lt h
@[simp] theorem shrL_drop {xs : List D} (n : Nat) (h : shrL xs = true) : shrL (xs.drop n) = true := shrL_all.mpr fun d hd => shrL_all.mp h d (List.mem_of_mem_drop hd)
@[simp] theorem shrL_take {xs : List D} (n : Nat) (h : shrL xs = true) : shrL (xs.take n) = true := shrL_all.mpr fun d hd => shrL_all.mp h d (List.mem_of_mem_take hd)
@[simp] theorem shrL_reverse {xs : List D} (h : shrL xs = true) : shrL xs.reverse = true := shrL_all.mpr fun d hd => shrL_all.mp h d (by simpa using hd)
@[simp] theorem shrL_replicate {d : D} (n : Nat) (h : shr d = true) : shrL (List.replicate n d) = true := shrL_all.mpr fun x hd => by rw [(List.mem_replicate.mp hd).2]; exact h
theorem sorted_len {a b : Int} : ∀ {xs : List Int}, xs.Pairwise (· < ·) → (∀ x ∈ xs, a ≤ x ∧ x < b) → xs.length ≤ (b - a).toNat
  | [], _, _ => Nat.zero_le _
  | x :: xs, s, h => by
    obtain ⟨s1, s2⟩ := List.pairwise_cons.mp s
    have hx := h x List.mem_cons_self
    have ih := sorted_len (a := x + 1) (b := b) s2 fun y hy => ⟨by have := s1 y hy; omega, (h y (List.mem_cons_of_mem _ hy)).2⟩
    rw [List.length_cons]
    omega
abbrev isD (xs : List Int) : List D := xs.map .int
abbrev tI (xs : List Int) : D := .tup (isD xs)
abbrev netD (N : List (List Int)) : D := .tup (N.map tI)
@[simp] theorem shrL_isD (xs : List Int) : shrL (xs.map .int) = true := shrL_map (by simp) xs
@[simp] theorem shrL_tI (N : List (List Int)) : shrL (N.map fun x => .tup (x.map .int)) = true := shrL_map (by simp) N
@[simp] theorem cloL_isD (xs : List Int) : cloL (xs.map .int) = true := cloL_map (by simp) xs
@[simp] theorem intsOf_map (xs : List Int) : intsOf (xs.map .int) = some xs := by
  induction xs with
  | nil => rfl
  | cons x xs ih => simp [intsOf, ih]
@[simp] theorem blsOf_map {α : Type} (f : α → Bool) (xs : List α) : blsOf (xs.map fun x => .bl (f x)) = some (xs.map f) := by
  induction xs with
  | nil => rfl
  | cons x xs ih => simp [blsOf, ih]
@[simp] theorem flDs_map (xs : List Int) : flDs (xs.map .int) = some (xs.map V.int) := by
  induction xs with
  | nil => rfl
  | cons x xs ih => simp [flDs, flD, ih]
theorem inV_int (i : Int) (xs : List Int) : inV (.int i) (xs.map V.int) = decide (i ∈ xs) := by
  unfold inV
  induction xs with
  | nil => rfl
  | cons x xs ih =>
    rw [List.map_cons, List.any_cons, ih]
    show (x == i || _) = _
    by_cases h : x = i
    · subst h; simp
    · have h' : i ≠ x := fun z => h z.symm
      simp [h, h']
@[simp] theorem opIn_t (neg : Bool) (i : Int) (xs : List Int) : opIn neg [.int i, .tup (xs.map .int)] = some (.bl (if neg = true then !decide (i ∈ xs) else decide (i ∈ xs))) := by
  simp [opIn, inD, flD, inV_int]
@[simp] theorem opIn_l (neg : Bool) (i : Int) (o : Bool) (xs : List Int) : opIn neg [.int i, .lst o (xs.map .int)] = some (.bl (if neg = true then !decide (i ∈ xs) else decide (i ∈ xs))) := by
  simp [opIn, inD, flD, inV_int]
@[simp] theorem opIn_t0 (neg : Bool) (i : Int) : opIn neg [.int i, .tup []] = some (.bl neg) := by
  have := opIn_t neg i []
  cases neg <;> simpa using this
@[simp] theorem opIn_l0 (neg : Bool) (i : Int) (o : Bool) : opIn neg [.int i, .lst o []] = some (.bl neg) := by
  have := opIn_l neg i o []
  cases neg <;> simpa using this
@[simp] theorem opAll_b {α : Type} (o : Bool) (f : α → Bool) (xs : List α) : opAll [.lst o (xs.map fun x => .bl (f x))] = some (.bl (xs.all f)) := by
  simp [opAll]
@[simp] theorem opSort_i (o : Bool) (xs : List Int) : opSort [.lst o (xs.map .int)] = some (.lst true ((sortI xs).map .int)) := by simp [opSort]
theorem opSSet_i (o : Bool) {xs : List Int} (h : xs.length < 4000) : opSSet [.lst o (xs.map .int)] = some (.lst true ((sortU xs).map .int)) := by simp [opSSet, h]
@[simp] theorem opSort_t (xs : List Int) : opSort [.tup (xs.map .int)] = some (.lst true ((sortI xs).map .int)) := by simp [opSort]
@[simp] theorem opSort_0 (o : Bool) : opSort [.lst o []] = some (.lst true []) := opSort_i o []
@[simp] theorem opSSet_0 (o : Bool) : opSSet [.lst o []] = some (.lst true []) := opSSet_i o (xs := []) (by decide)
theorem opMaxL_i (o : Bool) {xs : List Int} (h : xs ≠ []) : opMaxL [.lst o (xs.map .int)] = some (.int (maxI xs)) := by
  simp [opMaxL, h]
@[simp] theorem opTuple_l (o : Bool) {xs : List D} (h : shrL xs = true) : opTuple [.lst o xs] = some (.tup xs) := by simp [opTuple, h]
@[simp] theorem opTuple_t {xs : List D} (h : shrL xs = true) : opTuple [.tup xs] = some (.tup xs) := by simp [opTuple, h]
@[simp] theorem opList_l (o : Bool) {xs : List D} (h : shrL xs = true) : opList [.lst o xs] = some (.lst true xs) := by simp [opList, h]
@[simp] theorem opList_t {xs : List D} (h : shrL xs = true) : opList [.tup xs] = some (.lst true xs) := by simp [opList, h]
@[simp] theorem opIxA_t {xs : List D} (i : Int) (h : shrL xs = true) : opIxA [.tup xs, .int i] = atI xs i := by
  show opIx [.tup xs, .int i] = _
  simp [opIx, h]
@[simp] theorem opIxA_l {xs : List D} (o : Bool) (i : Int) (h : shrL xs = true) : opIxA [.lst o xs, .int i] = atI xs i := by
  show opIx [.lst o xs, .int i] = _
  simp [opIx, h]
theorem opAdd_l {o o' : Bool} {xs ys : List D} (h : shrL xs = true) (h' : shrL ys = true) (k : xs.length + ys.length ≤ sizeLine) : opAdd [.lst o xs, .lst o' ys] = some (.lst true (xs ++ ys)) := by
  unfold opAdd
  simp [h, h', k]
theorem opAdd_t {xs ys : List D} (h : shrL xs = true) (h' : shrL ys = true) (k : xs.length + ys.length ≤ sizeLine) : opAdd [.tup xs, .tup ys] = some (.tup (xs ++ ys)) := by
  unfold opAdd
  simp [h, h', k]
theorem opMul_l {o : Bool} {xs : List D} {k : Int} (h : shrL xs = true) (h0 : 0 ≤ k) (h1 : (xs.length : Int) * k ≤ 16777216) (h2 : k < 2 ^ 63) : opMul [.lst o xs, .int k] = some (.lst true (repL xs k.toNat)) := by
  unfold opMul
  simp only [seqOf_ls h]
  rw [if_pos]
  simp only [Bool.and_eq_true, decide_eq_true_eq]
  refine ⟨⟨by omega, h2⟩, ?_⟩
  rw [PySem.sizeLine_eq]
  have e : ((k.toNat : Nat) : Int) = k := Int.toNat_of_nonneg h0
  have : ((xs.length * k.toNat : Nat) : Int) ≤ 16777216 := by rw [Int.natCast_mul, e]; exact h1
  omega
@[simp] theorem repL_one (d : D) (n : Nat) : repL [d] n = List.replicate n d := by
  induction n with
  | zero => rfl
  | succ n ih => simp [repL, ih, List.replicate_succ]
@[simp] theorem opMul_l1 {o : Bool} {xs : List D} (h : shrL xs = true) (k : xs.length ≤ 16777216) : opMul [.lst o xs, .int 1] = some (.lst true xs) := by
  rw [opMul_l h (by omega) (by omega) (by decide)]
  show some (D.lst true (xs ++ [])) = _
  rw [List.append_nil]
@[simp] theorem opMul_l0 {o : Bool} {xs : List D} (h : shrL xs = true) : opMul [.lst o xs, .int 0] = some (.lst true []) := by
  rw [opMul_l h (by omega) (by omega) (by decide)]
  rfl
@[simp] theorem opAdd_nil {o o' : Bool} {xs : List D} (h : shrL xs = true) (k : xs.length ≤ 16777216) : opAdd [.lst o xs, .lst o' []] = some (.lst true xs) := by
  rw [opAdd_l h (by simp) (by rw [sizeLine_eq]; simp; omega), List.append_nil]
@[simp] theorem opAdd_nil' {o o' : Bool} {xs : List D} (h : shrL xs = true) (k : xs.length ≤ 16777216) : opAdd [.lst o' [], .lst o xs] = some (.lst true xs) := by
  rw [opAdd_l (by simp) h (by rw [sizeLine_eq]; simp; omega), List.nil_append]
@[simp] theorem opAdd_one {o o' : Bool} {d e : D} (h : shr d = true) (h' : shr e = true) : opAdd [.lst o [d], .lst o' [e]] = some (.lst true [d, e]) := by
  rw [opAdd_l (by simp [h]) (by simp [h']) (by simp [sizeLine_eq])]; rfl
theorem ixN_get {n : Nat} {i : Int} (h0 : 0 ≤ i) (h1 : i < n) : ixN n i = some i.toNat := by
  unfold ixN; rw [if_pos h0, if_pos h1]
@[simp] theorem atI_map {α β : Type} (f : α → β) (xs : List α) (i : Int) : atI (xs.map f) i = (atI xs i).map f := by
  unfold atI
  rw [List.length_map]
  cases ixN xs.length i with
  | none => rfl
  | some j => simp
theorem atI_get {α : Type} {xs : List α} {i : Int} (h0 : 0 ≤ i) (h1 : i < xs.length) : atI xs i = some (xs[i.toNat]'(by omega)) := by
  unfold atI
  rw [ixN_get h0 h1]
  show xs[i.toNat]? = _
  rw [List.getElem?_eq_getElem]
theorem atI_some {α : Type} {xs : List α} {i : Int} (h0 : 0 ≤ i) (h1 : i < xs.length) : ∃ x ∈ xs, atI xs i = some x := ⟨_, List.getElem_mem _, atI_get h0 h1⟩
theorem atI_nat' {α : Type} {xs : List α} {j : Nat} (h : j < xs.length) : atI xs (j : Int) = some xs[j] := by
  rw [atI_get (by omega) (by omega)]; rfl
@[simp] theorem atI_0 {α : Type} (x : α) (xs : List α) : atI (x :: xs) 0 = some x := by rw [atI_get (by omega) (by simp <;> omega)]; rfl
@[simp] theorem atI_1 {α : Type} (x y : α) (xs : List α) : atI (x :: y :: xs) 1 = some y := by rw [atI_get (by omega) (by simp <;> omega)]; rfl
@[simp] theorem atI_2 {α : Type} (x y z : α) (xs : List α) : atI (x :: y :: z :: xs) 2 = some z := by rw [atI_get (by omega) (by simp <;> omega)]; rfl
def rg (lo hi : Int) : List Int := (List.range (hi - lo).toNat).map fun i => lo + (i : Nat)
theorem rgD_eq (lo hi : Int) : rgD lo hi = (rg lo hi).map .int := by
  unfold rgD rg; rw [List.map_map]; rfl
@[simp] theorem rg_len (lo hi : Int) : (rg lo hi).length = (hi - lo).toNat := by simp [rg]
@[simp] theorem mem_rg {lo hi x : Int} : x ∈ rg lo hi ↔ lo ≤ x ∧ x < hi := by
  unfold rg
  simp only [List.mem_map, List.mem_range]
  constructor
  · rintro ⟨i, h, rfl⟩; omega
  · intro h; exact ⟨(x - lo).toNat, by omega, by omega⟩
theorem rg_sorted (lo hi : Int) : (rg lo hi).Pairwise (· < ·) := by
  unfold rg
  rw [List.pairwise_map]
  exact List.pairwise_lt_range.imp fun h => by omega
theorem rg_get {lo hi : Int} {i : Nat} {x : Int} (h : (rg lo hi)[i]? = some x) : x = lo + i ∧ x < hi := by
  unfold rg at h
  rw [List.getElem?_map] at h
  obtain ⟨j, hj, rfl⟩ := Option.map_eq_some_iff.mp h
  obtain ⟨h1, h2⟩ := List.getElem?_eq_some_iff.mp hj
  simp at h1 h2
  subst h2
  exact ⟨rfl, by omega⟩
theorem rgOk_of {lo hi : Int} (h1 : -4000000 ≤ lo) (h2 : lo ≤ 4000000) (h3 : -4000000 ≤ hi) (h4 : hi ≤ 4000000) : rgOk lo hi = true := by
  unfold rgOk
  simp only [Bool.and_eq_true, decide_eq_true_eq]
  rw [PySem.sizeLine_eq]
  refine ⟨⟨⟨⟨by omega, by omega⟩, by omega⟩, by omega⟩, by omega⟩
theorem itRg1 {j : Int} {ρ : En} (h3 : -4000000 ≤ j) (h4 : j ≤ 4000000) : rgK (.ok [.int j] ρ) = .ok ((rg 0 j).map .int) ρ := by
  rw [rgK_1, if_pos (rgOk_of (by omega) (by omega) h3 h4), rgD_eq]
theorem opRgL1' {j : Int} (h3 : -4000000 ≤ j) (h4 : j ≤ 4000000) : opRgL1 [.int j] = some (.lst true ((rg 0 j).map .int)) := by
  rw [opRgL1_i (rgOk_of (by omega) (by omega) h3 h4), rgD_eq]
theorem opRgT2' {i j : Int} (h1 : -4000000 ≤ i) (h2 : i ≤ 4000000) (h3 : -4000000 ≤ j) (h4 : j ≤ 4000000) : opRgT2 [.int i, .int j] = some (.tup ((rg i j).map .int)) := by
  rw [opRgT2_i (rgOk_of h1 h2 h3 h4), rgD_eq]
theorem sIx_pos {n d : Nat} {i : Int} (h : 0 ≤ i) : HT.sIx n d (some i) = min i.toNat n := by
  obtain ⟨k, rfl⟩ := Int.eq_ofNat_of_zero_le h
  exact HT.sIx_nat n d k
theorem cutD_lo {xs : List D} {i : Int} (h : 0 ≤ i) : cutD xs (some i) none = xs.drop i.toNat := by
  unfold cutD
  rw [sIx_pos h, HT.sIx_none]
  rw [List.take_of_length_le (by rw [List.length_drop]; omega)]
  by_cases q : i.toNat ≤ xs.length
  · rw [Nat.min_eq_left q]
  · rw [Nat.min_eq_right (by omega), List.drop_length, List.drop_eq_nil_of_le (by omega)]
theorem cutD_hi {xs : List D} {i : Int} (h : 0 ≤ i) : cutD xs none (some i) = xs.take i.toNat := by
  unfold cutD
  rw [sIx_pos h, HT.sIx_none, List.drop_zero, Nat.sub_zero]
  by_cases q : i.toNat ≤ xs.length
  · rw [Nat.min_eq_left q]
  · rw [Nat.min_eq_right (by omega), List.take_length, List.take_of_length_le (by omega)]
@[simp] theorem cutD_all {xs : List D} : cutD xs none none = xs := by
  unfold cutD
  rw [HT.sIx_none, HT.sIx_none, List.drop_zero, Nat.sub_zero, List.take_length]
@[simp] theorem enD_map {α : Type} (f : α → D) (k : Nat) (xs : List α) : enD k (xs.map f) = (xs.zipIdx k).map fun p => D.tup [.int (p.2 : Nat), f p.1] := by
  induction xs generalizing k with
  | nil => rfl
  | cons x xs ih => simp [enD, ih]
end Fw

namespace Fw
open PySem L2
section
variable {α : Type}
abbrev dI (f : α → D) (o : Bool) (m : List (Int × α)) : D := .dk o (m.map fun p => .inl p.1) (m.map fun p => f p.2)
def putA : List (Int × α) → Int → α → List (Int × α)
  | [], k, v => [(k, v)]
  | (q, x) :: m, k, v => if q = k then (q, v) :: m else (q, x) :: putA m k v
def getA : List (Int × α) → Int → Option α
  | [], _ => none
  | (q, x) :: m, k => if q = k then some x else getA m k
def keysA (m : List (Int × α)) : List Int := m.map (·.1)
@[simp] theorem keysA_nil : keysA ([] : List (Int × α)) = [] := (rfl)
@[simp] theorem keysA_cons (q : Int) (x : α) (m : List (Int × α)) : keysA ((q, x) :: m) = q :: keysA m := (rfl)
theorem mem_cons_ne {k q : Int} {l : List Int} (h : k ≠ q) : decide (k ∈ q :: l) = decide (k ∈ l) := by
  by_cases c : k ∈ l <;> simp [c, h]
theorem keysA_put (m : List (Int × α)) (k : Int) (v : α) : keysA (putA m k v) = if k ∈ keysA m then keysA m else keysA m ++ [k] := by
  induction m with
  | nil => rfl
  | cons p m ih =>
    obtain ⟨q, x⟩ := p
    unfold putA
    by_cases h : q = k
    · subst h; simp
    · have h' : k ≠ q := fun z => h z.symm
      rw [if_neg h, keysA_cons, keysA_cons, ih]
      by_cases c : k ∈ keysA m <;> simp [c, h']
theorem mem_put {m : List (Int × α)} {k : Int} {v : α} {z : Int} : z ∈ keysA (putA m k v) ↔ z = k ∨ z ∈ keysA m := by
  rw [keysA_put]
  split
  · constructor
    · exact .inr
    · rintro (rfl | h) <;> assumption
  · simp [or_comm]
theorem nodup_put {m : List (Int × α)} {k : Int} {v : α} (h : (keysA m).Nodup) : (keysA (putA m k v)).Nodup := by
  rw [keysA_put]
  split
  · exact h
  · rename_i n
    rw [List.nodup_append]
    exact ⟨h, by simp, fun a ha b hb => by simp at hb; subst hb; rintro rfl; exact n ha⟩
theorem getA_put {m : List (Int × α)} {k j : Int} {v : α} : getA (putA m k v) j = if k = j then some v else getA m j := by
  induction m with
  | nil => simp [putA, getA]
  | cons p m ih =>
    obtain ⟨q, x⟩ := p
    unfold putA
    by_cases h : q = k
    · subst h
      simp [getA]
      split <;> simp_all
    · rw [if_neg h]
      simp only [getA]
      by_cases h2 : q = j
      · subst h2
        rw [if_pos rfl, if_pos rfl, if_neg (fun z => h z.symm)]
      · rw [if_neg h2, if_neg h2, ih]
theorem getA_some {m : List (Int × α)} {k : Int} : (getA m k).isSome = decide (k ∈ keysA m) := by
  induction m with
  | nil => rfl
  | cons p m ih =>
    obtain ⟨q, x⟩ := p
    unfold getA
    by_cases h : q = k
    · subst h; simp
    · rw [if_neg h, ih]
      have h' : k ≠ q := fun z => h z.symm
      rw [keysA_cons, mem_cons_ne h']
theorem getD_map (f : α → D) (m : List (Int × α)) (k : Int) : getD (m.map fun p => .inl p.1) (m.map fun p => f p.2) (.inl k) = (getA m k).map f := by
  induction m with
  | nil => rfl
  | cons p m ih =>
    obtain ⟨q, x⟩ := p
    simp only [List.map_cons, getD, getA]
    by_cases h : q = k
    · subst h; simp
    · have h' : (Sum.inl q : Key) ≠ .inl k := fun z => h (by injection z)
      rw [if_neg h', if_neg h, ih]
theorem hasK_map (m : List (Int × α)) (k : Int) : hasK (m.map fun p => .inl p.1) (.inl k) = decide (k ∈ keysA m) := by
  unfold hasK
  rw [List.any_map]
  induction m with
  | nil => rfl
  | cons p m ih =>
    obtain ⟨q, x⟩ := p
    rw [List.any_cons, ih]
    by_cases h : q = k
    · subst h; simp
    · have h' : k ≠ q := fun z => h z.symm
      rw [keysA_cons, mem_cons_ne h']
      have h2 : (Sum.inl q : Key) ≠ .inl k := fun z => h (by injection z)
      simp [h]
theorem putKs_map (m : List (Int × α)) (k : Int) (v : α) : putKs (m.map fun p => .inl p.1) (.inl k) = (putA m k v).map fun p => (Sum.inl p.1 : Key) := by
  have e : ∀ m : List (Int × α), (m.map fun p => (Sum.inl p.1 : Key)) = (keysA m).map Sum.inl := fun m => by simp [keysA]
  rw [e (putA m k v), keysA_put]
  unfold putKs
  rw [hasK_map]
  rw [e m]
  by_cases h : k ∈ keysA m
  · simp [h]
  · simp [h]
theorem putXs_map (f : α → D) (m : List (Int × α)) (k : Int) (v : α) : putXs (m.map fun p => .inl p.1) (m.map fun p => f p.2) (.inl k) (f v) = (putA m k v).map fun p => f p.2 := by
  induction m with
  | nil => rfl
  | cons p m ih =>
    obtain ⟨q, x⟩ := p
    simp only [List.map_cons, putXs, putA]
    by_cases h : q = k
    · subst h; simp
    · have h2 : (Sum.inl q : Key) ≠ .inl k := fun z => h (by injection z)
      rw [if_neg h2, if_neg h, ih]; rfl
theorem keys_nodup {m : List (Int × α)} (h : (keysA m).Nodup) : (m.map fun p => (Sum.inl p.1 : Key)).Nodup := by
  have e : (m.map fun p => (Sum.inl p.1 : Key)) = (keysA m).map Sum.inl := by simp [keysA]
  rw [e]
  exact List.nodup_iff_pairwise_ne.mpr ((List.nodup_iff_pairwise_ne.mp h).map _ fun a b hab z => hab (by injection z))
theorem stk_int (f : α → D) {m : List (Int × α)} {k : Int} {v : α} {i : Nat} {vs : List Sv} {st : RSt} (h : (keysA m).Nodup) (hz : m.length < sizeLine) :
    stk i (f v) ⟨vs, st⟩ (m.map fun p => .inl p.1) (m.map fun p => f p.2) (some (.inl k)) = .ok .nx ⟨vs.set i (.ow (dI f true (putA m k v))), st⟩ := by
  rw [stk_some, if_pos ⟨by rw [List.length_map]; exact hz, keys_nodup h⟩, putKs_map m k v, putXs_map]
@[simp] theorem opIn_d (neg : Bool) (f : α → D) (o : Bool) (m : List (Int × α)) (k : Int) : opIn neg [.int k, .dk o (m.map fun p => .inl p.1) (m.map fun p => f p.2)] = some (.bl (if neg = true then !decide (k ∈ keysA m) else decide (k ∈ keysA m))) := by
  simp only [opIn, inD, keyD_int, Option.map_some, getD_map, Option.isSome_map, getA_some]
theorem opIxA_d {f : α → D} {o : Bool} {m : List (Int × α)} {k : Int} {v : α} (h : getA m k = some v) (hs : shr (f v) = true) : opIxA [.dk o (m.map fun p => .inl p.1) (m.map fun p => f p.2), .int k] = some (f v) := by
  simp only [opIxA, keyD_int, getD_map, h, Option.map_some, hs, if_true]
theorem getA_mem {m : List (Int × α)} {k : Int} (h : k ∈ keysA m) : ∃ v, getA m k = some v := by
  have := getA_some (m := m) (k := k)
  rw [decide_eq_true h] at this
  exact Option.isSome_iff_exists.mp this
theorem nodup_len {a b : Int} {xs : List Int} (h : xs.Nodup) (k : ∀ x ∈ xs, a ≤ x ∧ x < b) : xs.length ≤ (b - a).toNat := by
  have h1 := (sortI_perm xs).length_eq
  have h2 : (sortI xs).Pairwise (· < ·) := by
    have s := sortI_sorted xs
    have n : (sortI xs).Nodup := (sortI_perm xs).nodup_iff.mpr h
    exact (s.and (List.nodup_iff_pairwise_ne.mp n)).imp fun ⟨p, q⟩ => by omega
  rw [← h1]
  exact sorted_len h2 fun x hx => k x ((sortI_perm xs).mem_iff.mp hx)
theorem keys_len {m : List (Int × α)} : (keysA m).length = m.length := by simp [keysA]
end
theorem atI_getD {α : Type} {xs : List α} {i : Int} (d : α) (h0 : 0 ≤ i) (h1 : i < xs.length) : atI xs i = some (xs.getD i.toNat d) := by
  rw [atI_get h0 h1, List.getD_eq_getElem?_getD, List.getElem?_eq_getElem (by omega)]; rfl
theorem pyOfL_ints : ∀ xs : List Int, pyOfL (xs.map .int) = some (xs.map PyData.int)
  | [] => by simp [pyOfL]
  | x :: xs => by simp [pyOfL, pyOf, pyOfL_ints xs]
theorem eqvAll_ints : ∀ xs ys : List Int, PyData.eqvAll (xs.map PyData.int) (ys.map PyData.int) = decide (xs = ys)
  | [], [] => by simp [PyData.eqvAll]
  | [], y :: ys => by simp [PyData.eqvAll]
  | x :: xs, [] => by simp [PyData.eqvAll]
  | x :: xs, y :: ys => by
    simp only [List.map_cons, PyData.eqvAll, PyData.eqv, eqvAll_ints xs ys, List.cons.injEq]
    by_cases h : x = y <;> by_cases h2 : xs = ys <;> simp [h, h2]
theorem shaped_intsT (ns : List Int) : SeqAt.shaped (.tuple (ns.map PyData.int)) = true := by
  unfold SeqAt.shaped
  rw [PyData.canLay0, canLay_ints, PyData.depth, depthAll_ints]
  decide
theorem eqvD_l (o o' : Bool) (xs ys : List Int) : eqvD (.lst o (xs.map .int)) (.lst o' (ys.map .int)) = some (decide (xs = ys)) := by
  have e : eqS (.lst o (xs.map D.int)) (.lst o' (ys.map D.int)) = none := by simp [eqS]
  unfold eqvD
  rw [e]
  simp only [pyOf, pyOfL_ints, Option.map_some, shaped_ints, and_self, if_true]
  rw [PyData.eqv, eqvAll_ints]
theorem eqvD_t (xs ys : List Int) : eqvD (.tup (xs.map .int)) (.tup (ys.map .int)) = some (decide (xs = ys)) := by
  have e : eqS (.tup (xs.map D.int)) (.tup (ys.map D.int)) = none := by simp [eqS]
  unfold eqvD
  rw [e]
  simp only [pyOf, pyOfL_ints, Option.map_some, shaped_intsT, and_self, if_true]
  rw [PyData.eqv, eqvAll_ints]
@[simp] theorem opEq_l (o o' : Bool) (xs ys : List Int) : opEq [.lst o (xs.map .int), .lst o' (ys.map .int)] = some (.bl (decide (xs = ys))) := by
  simp only [opEq, eqvD_l, Option.map_some]
@[simp] theorem opEq_l0 (o o' : Bool) (xs : List Int) : opEq [.lst o (xs.map .int), .lst o' []] = some (.bl (decide (xs = []))) := opEq_l o o' xs []
@[simp] theorem opNe_l (o o' : Bool) (xs ys : List Int) : opNe [.lst o (xs.map .int), .lst o' (ys.map .int)] = some (.bl (!decide (xs = ys))) := by
  simp only [opNe, eqvD_l, Option.map_some]
@[simp] theorem opNe_l0 (o o' : Bool) (xs : List Int) : opNe [.lst o (xs.map .int), .lst o' []] = some (.bl (!decide (xs = []))) := opNe_l o o' xs []
@[simp] theorem opEq_t (xs ys : List Int) : opEq [.tup (xs.map .int), .tup (ys.map .int)] = some (.bl (decide (xs = ys))) := by
  simp only [opEq, eqvD_t, Option.map_some]
@[simp] theorem opEq_t0 (xs : List Int) : opEq [.tup (xs.map .int), .tup []] = some (.bl (decide (xs = []))) := opEq_t xs []
@[simp] theorem opNe_t (xs ys : List Int) : opNe [.tup (xs.map .int), .tup (ys.map .int)] = some (.bl (!decide (xs = ys))) := by
  simp only [opNe, eqvD_t, Option.map_some]
def pq : Nat → D → Bool
  | _, .int _ => true
  | _, .bl _ => true
  | _, .non => true
  | _, .str x => PyData.strOk x
  | k + 1, .lst _ xs => xs.all (pq k)
  | k + 1, .tup xs => xs.all (pq k)
  | _, _ => false
@[simp] theorem pq_int (k : Nat) (i : Int) : pq k (.int i) = true := by cases k <;> rfl
@[simp] theorem pq_non (k : Nat) : pq k .non = true := by cases k <;> rfl
@[simp] theorem pq_bl (k : Nat) (b : Bool) : pq k (.bl b) = true := by cases k <;> rfl
@[simp] theorem pq_str (k : Nat) (i : Str) : pq k (.str i) = PyData.strOk i := by cases k <;> rfl
@[simp] theorem pq_lst (k : Nat) (o : Bool) (xs : List D) : pq (k + 1) (.lst o xs) = xs.all (pq k) := by rfl
@[simp] theorem pq_tup (k : Nat) (xs : List D) : pq (k + 1) (.tup xs) = xs.all (pq k) := by rfl
theorem pq_py : ∀ (k : Nat) (d : D), pq k d = true → ∃ y, pyOf d = some y ∧ y.canLay0 = true ∧ y.depth ≤ k ∧ PyData.eqv y y = true
  | k, .int i, _ => ⟨.int i, by simp [pyOf], by simp [PyData.canLay0], by simp [PyData.depth], by simp [PyData.eqv]⟩
  | k, .bl i, _ => ⟨.bool i, by simp [pyOf], by simp [PyData.canLay0], by simp [PyData.depth], by simp [PyData.eqv]⟩
  | k, .non, _ => ⟨.none, by simp [pyOf], by simp [PyData.canLay0], by simp [PyData.depth], by simp [PyData.eqv]⟩
  | k, .str x, h => ⟨.str x, by simp [pyOf], by simpa [PyData.canLay0] using h, by simp [PyData.depth], by simp [PyData.eqv]⟩
  | 0, .lst o xs, h => by simp [pq] at h
  | 0, .tup xs, h => by simp [pq] at h
  | k, .dk o ks xs, h => by cases k <;> simp [pq] at h
  | k, .dt o ks xs, h => by cases k <;> simp [pq] at h
  | k, .rs, h => by cases k <;> simp [pq] at h
  | k, .ob o C fs xs, h => by cases k <;> simp [pq] at h
  | k, .ev C fs xs, h => by cases k <;> simp [pq] at h
  | k, .tv vs, h => by cases k <;> simp [pq] at h
  | k, .tz vs, h => by cases k <;> simp [pq] at h
  | k + 1, .lst o xs, h => by
    rw [pq_lst] at h
    obtain ⟨ys, h1, h2, h3, h4⟩ := pqs k xs (fun d hd => pq_py k d (List.all_eq_true.mp h d hd))
    exact ⟨.list ys, by simp [pyOf, h1], by simpa [PyData.canLay0] using h2, by simpa [PyData.depth] using h3, by simpa [PyData.eqv] using h4⟩
  | k + 1, .tup xs, h => by
    rw [pq_tup] at h
    obtain ⟨ys, h1, h2, h3, h4⟩ := pqs k xs (fun d hd => pq_py k d (List.all_eq_true.mp h d hd))
    exact ⟨.tuple ys, by simp [pyOf, h1], by simpa [PyData.canLay0] using h2, by simpa [PyData.depth] using h3, by simpa [PyData.eqv] using h4⟩
where
  pqs (k : Nat) : ∀ (xs : List D), (∀ d ∈ xs, ∃ y, pyOf d = some y ∧ y.canLay0 = true ∧ y.depth ≤ k ∧ PyData.eqv y y = true) → ∃ ys, pyOfL xs = some ys ∧ PyData.canLayAll0 ys = true ∧ PyData.depthAll ys ≤ k ∧ PyData.eqvAll ys ys = true
    | [], _ => ⟨[], by simp [pyOfL], by simp [PyData.canLayAll0], by simp [PyData.depthAll], by simp [PyData.eqvAll]⟩
    | d :: xs, h => by
      obtain ⟨y, h1, h2, h3, h4⟩ := h d List.mem_cons_self
      obtain ⟨ys, g1, g2, g3, g4⟩ := pqs k xs fun e he => h e (List.mem_cons_of_mem _ he)
      exact ⟨y :: ys, by simp [pyOfL, h1, g1], by simp [PyData.canLayAll0, h2, g2], by simp only [PyData.depthAll]; omega, by simp [PyData.eqvAll, h4, g4]⟩
theorem eqvD_same {k : Nat} {o o' : Bool} {xs : List D} (h : xs.all (pq k) = true) (hk : k < 64) : eqvD (.lst o xs) (.lst o' xs) = some true := by
  obtain ⟨y, h1, h2, h3, h4⟩ := pq_py (k + 1) (.lst o xs) (by rw [pq_lst]; exact h)
  have h1' : pyOf (.lst o' xs) = some y := by rw [← h1]; simp [pyOf]
  have e : eqS (.lst o xs) (.lst o' xs) = none := by simp [eqS]
  have hs : SeqAt.shaped y = true := by
    unfold SeqAt.shaped
    rw [h2, Bool.true_and, decide_eq_true_eq]; omega
  unfold eqvD
  rw [e]
  simp only [h1, h1', hs, and_self, if_true, h4]
theorem eqvD_sameT {k : Nat} {xs : List D} (h : xs.all (pq k) = true) (hk : k < 64) : eqvD (.tup xs) (.tup xs) = some true := by
  obtain ⟨y, h1, h2, h3, h4⟩ := pq_py (k + 1) (.tup xs) (by rw [pq_tup]; exact h)
  have e : eqS (.tup xs) (.tup xs) = none := by simp [eqS]
  have hs : SeqAt.shaped y = true := by
    unfold SeqAt.shaped
    rw [h2, Bool.true_and, decide_eq_true_eq]; omega
  unfold eqvD
  rw [e]
  simp only [h1, hs, and_self, if_true, h4]
theorem opEq_same {k : Nat} {o o' : Bool} {xs : List D} (h : xs.all (pq k) = true) (hk : k < 64) : opEq [.lst o xs, .lst o' xs] = some (.bl true) := by
  simp only [opEq, eqvD_same h hk, Option.map_some]
theorem opNe_sameT {k : Nat} {xs : List D} (h : xs.all (pq k) = true) (hk : k < 64) : opNe [.tup xs, .tup xs] = some (.bl false) := by
  simp only [opNe, eqvD_sameT h hk, Option.map_some, Bool.not_true]
theorem view_keys {α : Type} {f : α → D} {o : Bool} {m : List (Int × α)} (h : m.length ≤ 16777216) : viewD .keys (dI f o m) = some ((keysA m).map .int) := by
  show (if (m.map fun p => (Sum.inl p.1 : Key)).length ≤ sizeLine then some ((m.map fun p => (Sum.inl p.1 : Key)).map keyE) else none) = _
  rw [if_pos (by rw [List.length_map, PySem.sizeLine_eq]; exact h)]
  simp [keysA, Function.comp_def, keyE]
end Fw

namespace Fw
open PySem PySem.Spec PyProof.Rows L2
inductive Tg where
  | nm (i : Nat)
  | tp (ts : List Tg)
section
variable {X : Cx} {B : Bs} {pos : Pos}
end
section
variable {X : Cx} {B : Bs} {e : Expr} {f : En → Out D}
def dropXs : List Key → List D → Key → List D
  | k :: ks, x :: xs, q => if k = q then dropXs ks xs q else x :: dropXs ks xs q
  | _, _, _ => []
def dropKs (ks : List Key) (q : Key) : List Key := ks.filter fun k => decide (k ≠ q)
theorem drop_rp {S : Gs} {H Hs : Hp} {q : Key} : ∀ {kvs : List (Key × V)} {ds : List D} {F : List Addr}, RpL S H Hs ds (kvs.map (·.2)) F → F.Nodup → ∃ F', RpL S H Hs (dropXs (kvs.map (·.1)) ds q) ((L2.dropK kvs q).map (·.2)) F' ∧ (∀ x ∈ F', x ∈ F) ∧ F'.Nodup
  | [], ds, F, r, n => by
    cases r
    exact ⟨[], .nil, fun _ z => (nomatch z), .nil⟩
  | (k, v) :: kvs, ds, F, r, n => by
    rw [List.map_cons] at r
    cases r with
    | @cons d _ ds _ F1 G1 h r =>
      obtain ⟨n1, n2, n3⟩ := List.nodup_append.mp n
      obtain ⟨F', r', sub, nd⟩ := drop_rp (q := q) r n2
      by_cases c : k = q
      · refine ⟨F', ?_, fun x hx => List.mem_append_right _ (sub x hx), nd⟩
        simpa [dropXs, L2.dropK, c] using r'
      · refine ⟨F1 ++ F', ?_, fun x hx => ?_, List.nodup_append.mpr ⟨n1, nd, fun x hx y hy => n3 x hx y (sub y hy)⟩⟩
        · have := RpL.cons h r'
          simpa [dropXs, L2.dropK, c] using this
        · rcases List.mem_append.mp hx with hx | hx
          · exact List.mem_append_left _ hx
          · exact List.mem_append_right _ (sub x hx)
theorem dropK_keys (kvs : List (Key × V)) (q : Key) : (L2.dropK kvs q).map (·.1) = dropKs (kvs.map (·.1)) q := by
  unfold L2.dropK dropKs
  rw [List.filter_map]
  rfl
theorem drop_out {S : Gs} {H Hs : Hp} {q : Key} {d : D} : ∀ {kvs : List (Key × V)} {ds : List D} {F : List Addr}, RpL S H Hs ds (kvs.map (·.2)) F → F.Nodup → getD (kvs.map (·.1)) ds q = some d →
    ∃ v G' Gx, valV kvs q = some v ∧ (∀ y ∈ G', y ∈ F) ∧ (∀ y ∈ Gx, y ∈ F) ∧ (∀ y ∈ G', y ∉ Gx) ∧ G'.Nodup ∧ Gx.Nodup ∧ RpL S H Hs (dropXs (kvs.map (·.1)) ds q) ((L2.dropK kvs q).map (·.2)) G' ∧ Rp S H Hs d v Gx
  | [], ds, F, r, n, e => by
    cases r
    cases e
  | (k, v) :: kvs, ds, F, r, n, e => by
    rw [List.map_cons] at r e
    cases r with
    | @cons d0 _ ds _ F1 G1 h r =>
      obtain ⟨n1, n2, n3⟩ := List.nodup_append.mp n
      by_cases c : k = q
      · obtain ⟨F', r', sub, nd⟩ := drop_rp (q := q) r n2
        rw [getD, if_pos c] at e
        cases e
        refine ⟨v, F', F1, by simp [valV, c], fun y hy => List.mem_append_right _ (sub y hy), fun y hy => List.mem_append_left _ hy, fun y hy hy2 => n3 y hy2 y (sub y hy) rfl, nd, n1, ?_, h⟩
        simpa [dropXs, L2.dropK, c] using r'
      · rw [getD, if_neg c] at e
        obtain ⟨w, G', Gx, h1, h2, h3, h4, h5, h6, h7, h8⟩ := drop_out (q := q) (d := d) r n2 e
        refine ⟨w, F1 ++ G', Gx, by simpa [valV, c] using h1, fun y hy => ?_, fun y hy => List.mem_append_right _ (h3 y hy), fun y hy => ?_, List.nodup_append.mpr ⟨n1, h5, fun x hx y hy => n3 x hx y (h2 y hy)⟩, h6, ?_, h8⟩
        · rcases List.mem_append.mp hy with hy | hy
          · exact List.mem_append_left _ hy
          · exact List.mem_append_right _ (h2 y hy)
        · rcases List.mem_append.mp hy with hy | hy
          · exact fun z => n3 y hy y (h3 y z) rfl
          · exact h4 y hy
        · have := RpL.cons h h7
          simpa [dropXs, L2.dropK, c] using this
theorem R.dpopAt {T : Tm} {ρ : En} {σ : L2.St} {H : Hp} {F : List Addr} {i : Nat} {a : Addr} {kvs : List (Key × V)} {ks : List Key} {xs : List D} {q : Key} {y : D} (h : R B T ρ σ H F) (e : ρ.vs[i]? = some (.ow (.dk true ks xs))) (ev : B.loc σ i = some (some (.ref a))) (ha : H a = some (.dK kvs)) (ek : getD ks xs q = some y) :
    ∃ w, valV kvs q = some w ∧ R B (T ++ [(y, w)]) { ρ with vs := ρ.vs.set i (.ow (.dk true (dropKs ks q) (dropXs ks xs q))) } σ (upd H a (.dK (L2.dropK kvs q))) F := by
  obtain ⟨fp, p⟩ := h.pt
  obtain ⟨v, ev', r⟩ := (show RpV _ _ _ (.ow (.dk true ks xs)) _ _ from p.sl i _ e)
  rw [ev] at ev'; cases ev'
  generalize hG : fp (.inr i) = G0 at r
  have hks : ks = kvs.map (·.1) := by
    generalize hk : ks = ks' at r
    cases r with
    | @dkO _ kvs2 _ F1 ha2 rl2 => rw [ha] at ha2; cases ha2; rfl
  subst hks
  have hw : ∃ w, valV kvs q = some w := by
    generalize hk : kvs.map (·.1) = ks' at r
    cases r with
    | @dkO _ kvs2 _ F1 ha2 rl2 =>
      rw [ha] at ha2; cases ha2
      have gg := getD_rp (q := q) rl2
      rw [ek] at gg
      obtain ⟨u, _, g1, _⟩ := gg
      exact ⟨u, g1⟩
  obtain ⟨w, hw⟩ := hw
  refine ⟨w, hw, h.mutOut e ev (fun {Hs G} hs r n => ?_) (by
      intro us eu
      rcases eu with eu | eu <;> cases eu)⟩
  rw [← dropK_keys]
  generalize hk : kvs.map (·.1) = ks' at r
  cases r with
  | @dkO _ kvs2 _ F1 ha2 rl2 =>
    rw [ha] at ha2; cases ha2
    obtain ⟨na, n1⟩ := List.nodup_cons.mp n
    obtain ⟨w2, G', Gx, h1, h2, h3, h4, h5, h6, h7, h8⟩ := drop_out (q := q) (d := y) rl2 n1 ek
    rw [hw] at h1; cases h1
    have naG : a ∉ G' := fun z => na (h2 a z)
    have naX : a ∉ Gx := fun z => na (h3 a z)
    refine ⟨a :: G', Gx, fun y hy => ?_, fun y hy => List.mem_cons_of_mem _ (h3 y hy), fun y hy => ?_, List.nodup_cons.mpr ⟨naG, h5⟩, h6, List.mem_cons_self, fun {H'} ha' kk => ⟨.dkO ha' (h7.mono (fun y hy u q => kk y u (by rintro rfl; exact naG hy) q) fun _ _ z => z), h8.mono (fun y hy u q => kk y u (by rintro rfl; exact naX hy) q) fun _ _ z => z⟩⟩
    · rcases List.mem_cons.mp hy with rfl | hy
      · exact List.mem_cons_self
      · exact List.mem_cons_of_mem _ (h2 y hy)
    · rcases List.mem_cons.mp hy with rfl | hy
      · exact naX
      · exact h4 y hy
def evDPop (i : Nat) (f : En → Out D) : En → Out D := fun ρ => match ρ.vs[i]? with
  | some (.ow (.dk true _ _)) => (f ρ).bind fun k ρ1 => match ρ1.vs[i]? with
    | some (.ow (.dk true ks xs)) => match keyD k with
      | some q => match getD ks xs q with
        | some y => .ok y { ρ1 with vs := ρ1.vs.set i (.ow (.dk true (dropKs ks q) (dropXs ks xs q))) }
        | none => .no
      | none => .no
    | _ => .no
  | _ => .no
theorem own_dk {T : Tm} {ρ : En} {σ : L2.St} {H : Hp} {F : List Addr} {i : Nat} {ks : List Key} {ds : List D} (r : R B T ρ σ H F) (e : ρ.vs[i]? = some (.ow (.dk true ks ds))) : ∃ a kvs, B.loc σ i = some (some (.ref a)) ∧ H a = some (.dK kvs) := by
  obtain ⟨fp, p⟩ := r.pt
  obtain ⟨v', ev', r⟩ := (show RpV _ _ _ (.ow (.dk true ks ds)) _ _ from p.sl i _ e)
  generalize fp (.inr i) = G0 at r
  cases r with
  | dkO h r => exact ⟨_, _, ev', h⟩
theorem ev_dpop {i : Nat} (h : PE X e (tDPop1 (tL B i) (cE B f))) : PE X e (cE B (evDPop i f)) := h.imp fun σ H Q ⟨T, ρ, F, r, q⟩ => by
  unfold evDPop at q
  split at q
  · rename_i ks0 xs0 e0
    obtain ⟨a, kvs0, ev, ha⟩ := own_dk r e0
    refine ⟨_, ev, r.at, a, rfl, .inl ⟨kvs0, .inl ha⟩, T, ρ, F, r, Out.wp_mono (Out.wp_bind q) (fun k ρ1 q v H1 F1 r1 => ?_) fun _ _ z => z⟩
    split at q
    · rename_i ks xs e1
      split at q
      · rename_i q0 ek
        split at q
        · rename_i y ey
          obtain ⟨kvs, ha1, hk, hl, step⟩ := r1.mutD e1 ev
          obtain ⟨_, rk⟩ := top_rp r1
          have hkey := keyD_rp rk.1 ek
          obtain ⟨u, hu, r2⟩ := R.dpopAt r1.drop e1 ev ha1 ey
          exact ⟨kvs, q0, u, ha1, hkey, hu, q u _ F1 r2⟩
        · exact q.elim
      · exact q.elim
    · exact q.elim
  · exact q.elim
end
section
variable {X : Cx} {B : Bs}
end
def dpK (i : Nat) (f : En → Out D) (ρ : En) : Option Sv → Out D
  | some (.ow (.dk true _ _)) => (f ρ).bind fun k ρ1 => match ρ1.vs[i]? with
    | some (.ow (.dk true ks xs)) => match keyD k with
      | some q => match getD ks xs q with
        | some y => .ok y { ρ1 with vs := ρ1.vs.set i (.ow (.dk true (dropKs ks q) (dropXs ks xs q))) }
        | none => .no
      | none => .no
    | _ => .no
  | _ => .no
def dpK2 (i : Nat) (k : D) (ρ1 : En) : Option Sv → Out D
  | some (.ow (.dk true ks xs)) => match keyD k with
      | some q => match getD ks xs q with
        | some y => .ok y { ρ1 with vs := ρ1.vs.set i (.ow (.dk true (dropKs ks q) (dropXs ks xs q))) }
        | none => .no
      | none => .no
  | _ => .no
def dpK1 (i : Nat) : Out D → Out D
  | .ok k ρ1 => dpK2 i k ρ1 ρ1.vs[i]?
  | .ex x ρ => .ex x ρ
  | .no => .no
@[simp] theorem evDPop_eq (i : Nat) (f : En → Out D) (vs : List Sv) (st : RSt) : evDPop i f ⟨vs, st⟩ = dpK i f ⟨vs, st⟩ vs[i]? := by
  rw [evDPop]; dsimp only
  rcases vs[i]? with _ | (_ | d | d)
  · rfl
  · rfl
  · rfl
  · rcases d with _ | b | i | x | ⟨o, xs⟩ | xs | ⟨o, ks, xs⟩ | ⟨o, ks, xs⟩ | _ | ⟨o, C, fs, xs⟩ | ⟨C, fs, xs⟩ <;> first | rfl | (cases o <;> rfl)
@[simp] theorem dpK_ok (i : Nat) (f : En → Out D) (ρ : En) (ks : List Key) (xs : List D) : dpK i f ρ (some (.ow (.dk true ks xs))) = dpK1 i (f ρ) := by
  rw [dpK, dpK1.eq_def]
  cases f ρ with
  | ok k ρ1 =>
    simp only [Out.bind]
    rcases ρ1.vs[i]? with _ | (_ | d | d)
    · rfl
    · rfl
    · rfl
    · rcases d with _ | b | i | x | ⟨o, xs⟩ | xs | ⟨o, ks, xs⟩ | ⟨o, ks, xs⟩ | _ | ⟨o, C, fs, xs⟩ | ⟨C, fs, xs⟩ <;> first | rfl | (cases o <;> rfl)
  | _ => rfl
@[simp] theorem dpK1_ok (i : Nat) (k : D) (vs : List Sv) (st : RSt) : dpK1 i (.ok k ⟨vs, st⟩) = dpK2 i k ⟨vs, st⟩ vs[i]? := rfl
section
variable {α : Type}
def dropA (m : List (Int × α)) (k : Int) : List (Int × α) := m.filter fun p => decide (p.1 ≠ k)
theorem dropKs_map (m : List (Int × α)) (k : Int) : dropKs (m.map fun p => .inl p.1) (.inl k) = (dropA m k).map fun p => (Sum.inl p.1 : Key) := by
  induction m with
  | nil => rfl
  | cons p m ih =>
    obtain ⟨q, x⟩ := p
    unfold dropKs dropA at ih ⊢
    by_cases c : q = k
    · subst c
      rw [List.map_cons, List.filter_cons_of_neg (by simp), List.filter_cons_of_neg (by simp)]
      exact ih
    · have h2 : (Sum.inl q : Key) ≠ .inl k := fun z => c (by injection z)
      rw [List.map_cons, List.filter_cons_of_pos (by simpa using h2), List.filter_cons_of_pos (by simpa using c), List.map_cons, ih]
theorem dropXs_map (f : α → D) (m : List (Int × α)) (k : Int) : dropXs (m.map fun p => .inl p.1) (m.map fun p => f p.2) (.inl k) = (dropA m k).map fun p => f p.2 := by
  induction m with
  | nil => rfl
  | cons p m ih =>
    obtain ⟨q, x⟩ := p
    unfold dropA at ih ⊢
    simp only [List.map_cons, dropXs]
    by_cases c : q = k
    · subst c
      rw [List.filter_cons_of_neg (by simp), if_pos rfl]
      exact ih
    · have h2 : (Sum.inl q : Key) ≠ .inl k := fun z => c (by injection z)
      rw [List.filter_cons_of_pos (by simpa using c), if_neg h2, List.map_cons, ih]
theorem dpop_d {f : α → D} {m : List (Int × α)} {k : Int} {v : α} {i : Nat} {vs : List Sv} {st : RSt} (h : getA m k = some v) :
    dpK2 i (.int k) ⟨vs, st⟩ (some (.ow (dI f true m))) = .ok (f v) ⟨vs.set i (.ow (dI f true (dropA m k))), st⟩ := by
  simp only [dpK2, keyD_int, getD_map, h, Option.map_some, dropKs_map, dropXs_map]
end
end Fw

namespace Fw
open PySem PySem.Spec PyProof.Rows L2
section
variable {X : Cx} {B : Bs} {T : Tm} {ρ : En} {σ : L2.St} {H : Hp} {F : List Addr}
end
section
variable {X : Cx} {B : Bs}
def evFz (f : En → Out D) : En → Out D := fun ρ => (f ρ).bind fun d ρ' => .ok (fz d) ρ'
end
def fzK : Out D → Out D
  | .ok d ρ => .ok (fz d) ρ
  | .ex x ρ => .ex x ρ
  | .no => .no
@[simp] theorem evFz_eq (f : En → Out D) (ρ : En) : evFz f ρ = fzK (f ρ) := by
  rw [evFz, fzK.eq_def]; cases f ρ <;> rfl
@[simp] theorem fzK_ok (d : D) (ρ : En) : fzK (.ok d ρ) = .ok (fz d) ρ := rfl
end Fw

namespace Fw
open PySem PySem.Spec PyProof.Rows L2
section
variable {X : Cx} {B : Bs} {T ts : Tm} {ρ : En} {σ : L2.St} {H : Hp} {F : List Addr} {d : D} {v : V} {pos pos' p : Pos} {e tg iter : Expr} {f : En → Out D}
variable {elt : Expr} {ifs : List Expr} {scope : Scope} {own : List (Str × Nat)} {fc : En → Out Bool} {fe : En → Out D}
end
end Fw

namespace Fw
open PySem PySem.Spec PyProof.Rows L2
section
variable {X : Cx} {e : Expr} {es : List Expr} {ta : TA} {p1 p2 pos : Pos}
theorem pe_coinit {x : Str} {C0 : Addr} {pl : Sem Bool} {mc : Value} (hg : Gl X x) (hm : X.mg x = some (.ref C0)) (hr : PySem.W.readsIn X.K C0 mc = true) (hsp : PySem.W.specialIn X.K (.ref C0) "__getattribute__" = some (some (.builtin "type.__getattribute__")))
    (vV : PySem.W.findCls X.K (.ref C0) mc "__init__" = some (.val (.builtin "ValueError.__init__"))) (ha : PA X (e :: es) ta)
    (hc : eval (.Call (.Attribute (.Name x p1) "__init__" p2) (e :: es) [] pos) X.env = (do
      let ov ← eval (.Name x p1) X.env
      standAt p2.atName
      let (f, first) ← holding [ov] (getMethod ov "__init__" pl)
      callWith pos f first (backTo pos (starEach (e :: es) X.env)) (backToKw pos (keywordEach [] X.env))) := by rfl)
    (he : starEach (e :: es) X.env = (false, eval e X.env) :: starEach es X.env := by rfl) (hpl : (backTo pos (starEach es X.env)).any (·.1) = false := by rfl) (hd : (x == ("__debug__" : Str)) = false := by decide) :
    PE X (.Call (.Attribute (.Name x p1) "__init__" p2) (e :: es) [] pos) (tVeI X.K ta) := by
  refine ⟨fun pins s σ H Q I h => ?_⟩
  refine PySem.W.methodCall_KW (ld_glob I hg hm ?_ (by assumption)) hc
  refine PySem.W.method_cls I.kIn hsp (PySem.W.cls_value I.kIn hr vV (by decide +kernel) ?_)
  show wpAny _ _ (callWith pos (Value.builtin "ValueError.__init__") [] (backTo pos (starEach (e :: es) X.env)) []) _ _ _
  refine PyProof.Rows.callWith_method1 (thn (ha.run pos pins _ σ H _ (I.tok _) h) fun us s1 ⟨vs, H1, I1, r1, a, C, ws, ev, hl, T, ea, q⟩ => ?_) he hpl
  subst ev
  cases r1 with
  | @cons _ u0 _ ur ra rw' =>
    obtain rfl : u0 = Value.ref a := ra
    have hlen : ur.length ≤ sizeLine := by
      rw [← Paired.length rw', sizeLine_eq]
      omega
    exact oinit_ok T I1 ea hlen fun s' J => ⟨.non, H1, J, rfl, q⟩
end
section
variable {X : Cx} {B : Bs}
end
end Fw

set_option maxHeartbeats 2000000
namespace Fw
open PySem PySem.Spec PyProof.Rows L2
section
variable {X : Cx}
variable {x n y : Str} {c : Value} {i j : Nat} {body : List Stmt} {np pos pos' py pn pa : Pos} {tb : WX → TS} {Wout : WX}
end
end Fw

namespace Fw
open PySem PySem.Spec PyProof.Rows L2
section
variable {X : Cx} {B : Bs} {T : Tm} {ρ : En} {σ : L2.St} {H : Hp} {F : List Addr}
abbrev Bs.setW (B : Bs) (W : WX) : Bs := { B with W := W }
theorem R.setW (W : WX) (h : R B T ρ σ H F) : R (B.setW W) T ρ σ H F := by
  obtain ⟨a1, b1, b2, ⟨fp, p1, p2, p3, p4, p5⟩, a3, a4, a5, a6, a7, a8, a9, a10, a11⟩ := h
  exact ⟨a1, b1, b2, ⟨fp, p1, p2, p3, p4, p5⟩, a3, a4, a5, a6, a7, a8, a9, a10, a11⟩
theorem R.unW {W : WX} (h : R (B.setW W) T ρ σ H F) : R B T ρ σ H F := by
  obtain ⟨a1, b1, b2, ⟨fp, p1, p2, p3, p4, p5⟩, a3, a4, a5, a6, a7, a8, a9, a10, a11⟩ := h
  exact ⟨a1, b1, b2, ⟨fp, p1, p2, p3, p4, p5⟩, a3, a4, a5, a6, a7, a8, a9, a10, a11⟩
theorem slQ_W {W : WX} {D' : Ends} {fl : Fl} (h : slQ B T D' fl ρ) : slQ (B.setW W) T D' fl ρ := by
  cases fl with
  | nx => exact fun σ H F r => h σ H F r.unW
  | rt d => exact fun v σ H F r => h v σ H F r.unW
  | bk => exact fun σ H F r => h σ H F r.unW
  | ct => exact fun σ H F r => h σ H F r.unW
structure ExC0 (K : PySem.W.Frag) (mg : Str → Option Value) (x : Str) : Prop where
  nz : clsAt K x ≠ 0
  g : mg x = some (.ref (clsAt K x))
  q : PySem.W.excIn K (clsAt K x) [.type "ValueError", .type "Exception", .type "BaseException", .type "object"] "ValueError.__new__" = true
  k : PySem.W.keepIn K (.ref (clsAt K x)) = true
  b : PySem.W.subIn K (.ref (clsAt K x)) (.type "BaseException") = some true
  t : PySem.W.typeIn K (.ref (clsAt K x)) = some (.type "type")
def sRaise0 (C : Str) : En → Out Fl := fun ρ => .ex ⟨C, [], []⟩ ρ
def sTry (tab : List (Str × Bool)) (body suite : En → Out Fl) : En → Out Fl := fun ρ => match body ρ with
  | .ok fl ρ' => .ok fl ρ'
  | .ex x ρ' => match tab.lookup x.cls with
    | some true => noEx (suite ρ')
    | some false => .ex x ρ'
    | none => .no
  | .no => .no
def ExT (K : PySem.W.Frag) (c : Value) (tab : List (Str × Bool)) : Prop := ∀ p ∈ tab, clsAt K p.1 ≠ 0 → PySem.W.exmOne K (.ref (clsAt K p.1)) c = some p.2
theorem ext_nil {K : PySem.W.Frag} {c : Value} : ExT K c [] := fun _ h => nomatch h
theorem ext_cons {K : PySem.W.Frag} {c : Value} {e : Str} {b : Bool} {tab : List (Str × Bool)} (h : clsAt K e ≠ 0 → PySem.W.exmOne K (.ref (clsAt K e)) c = some b) (r : ExT K c tab) : ExT K c ((e, b) :: tab) := fun p hp => by
  rcases List.mem_cons.mp hp with rfl | hp
  · exact h
  · exact r p hp
theorem lookup_mem {tab : List (Str × Bool)} {e : Str} {b : Bool} (h : tab.lookup e = some b) : (e, b) ∈ tab := by
  induction tab with
  | nil => cases h
  | cons p tab ih =>
    obtain ⟨f, z⟩ := p
    by_cases c : e = f
    · subst c
      simp [List.lookup] at h
      subst h
      exact List.mem_cons_self
    · have : (e == f) = false := by simpa using c
      rw [List.lookup, this] at h
      exact List.mem_cons_of_mem _ (ih h)
variable {x n y : Str} {c : Value} {i j : Nat} {body suite : List Stmt} {b₀ : Stmt} {np pos pos' py pn pa : Pos} {tab : List (Str × Bool)} {fb fs : En → Out Fl}
theorem noEx_ex {α : Type} {o : Out α} {Q : α → En → Prop} {Z Z' : Exc → En → Prop} (h : (noEx o).wp Q Z) : o.wp Q Z' := by
  cases o with
  | ok a ρ => exact h
  | ex x ρ => exact h.elim
  | no => exact h.elim
theorem es_try (ht : ExT X.K c tab) (hcl : B.S.cl = clsAt X.K) (hs : X.stack = X.env :: X.outer) (hf : X.env.frame = some X.env.locals) (hc : Names X x c) (tk : Takes X B.W)
    (hb : ∀ (W : WX) (pn : List (Addr × Obj)) (xe : Value → Shared → Prop), Takes (X.tr pn xe) W → PassesOwn (model X.prog X.w) X.A X.env xe → PSs (X.tr pn xe) body (cS (B.setW W) fb))
    (hsu : ∀ (a : Addr) (oe : Obj) (pn : List (Addr × Obj)), PSs (X.suite a ((a, oe) :: pn)) (b₀ :: suite) (cS B.mute fs)) :
    PS X (.Try body [.ExceptHandler (some (.Name x np)) none (b₀ :: suite) pos'] [] [] pos) (cS B (sTry tab fb fs)) :=
  (ps_try_only (ts := fun _ _ _ => cS B.mute fs) hs hf hc tk hb (fun a oe _ _ pn _ _ => hsu a oe pn)).imp fun D' σ H ⟨T, ρ, F, r, q⟩ => by
    refine ⟨T, ρ, F, r.setW _, ?_⟩
    unfold sTry at q
    cases e : fb ρ with
    | no => rw [e] at q; exact q.elim
    | ok fl ρ' => rw [e] at q; exact slQ_W q
    | ex x ρ' =>
      rw [e] at q
      dsimp only at q
      intro cls d σ' H' F' xr r'
      obtain ⟨ec, ez, ed⟩ := xr
      cases el : tab.lookup x.cls with
      | none => rw [el] at q; exact q.elim
      | some b =>
        rw [el] at q
        have hm := ht _ (lookup_mem el) (by rw [hcl] at ez; exact ez)
        refine ⟨b, by rw [ec]; show PySem.W.exmOne X.K (.ref (B.S.cl x.cls)) c = _; rw [hcl]; exact hm, ?_, ?_⟩
        · rintro rfl a ha
          exact ⟨T, ρ', F', r'.unW.mute, Out.wp_mono (noEx_ex (Z' := sxQ B.mute T) q) (fun fl ρ2 z => slQ_W z) fun _ _ z => z⟩
        · rintro rfl
          exact q cls d σ' H' F' ⟨ec, ez, ed⟩ r'.unW
theorem R.noSlot {i : Nat} {o : Option V} (h : R B T ρ σ H F) (hf : B.free [i] = true) : R B T { ρ with vs := ρ.vs.set i .no } (σ.set i o) H F := by
  have h2 := h.forget [i]
  refine h2.slots (by simp) (fun k s e => ?_) fun k a q => ?_
  · rcases getElem?_set' (show (ρ.vs.set i .no)[k]? = some s from e) with ⟨_, z⟩ | ⟨ne, _⟩
    · exact .inl z
    · exact .inr (Bs.loc_set (Bs.free2 hf) ne)
  · rw [List.getElem?_set_ne (by rintro rfl; rw [Bs.free1 hf] at q; cases q)]
end
end Fw

namespace Fw
open PySem PySem.Spec PyProof.Rows L2
section
variable {X : Cx}
end
structure IsT (K : PySem.W.Frag) (u : Value) (tab : List (Str × Bool)) : Prop where
  ex : ∀ p ∈ tab, clsAt K p.1 ≠ 0 → PySem.W.kitOne K (.ref (clsAt K p.1)) u = some p.2
  pl : ∀ t : PT, PySem.W.kitOne K (.type t.nm) u = some false
section
variable {X : Cx} {B : Bs} {T ts : Tm} {ρ : En} {σ : L2.St} {H : Hp} {F : List Addr} {d : D} {v : V} {G : List Addr} {tab : List (Str × Bool)}
variable {a : Expr} {pa : Opd} {pos p p2 : Pos} {x : Str}
structure IsTs (K : PySem.W.Frag) (us : List Value) (tab : List (Str × Bool)) : Prop where
  ex : ∀ p ∈ tab, clsAt K p.1 ≠ 0 → PySem.W.kitAny K (.ref (clsAt K p.1)) us = some p.2
  pl : ∀ t : PT, PySem.W.kitAny K (.type t.nm) us = some false
inductive ClsEs (X : Cx) : List Expr → List V → List Value → Prop
  | nil : ClsEs X [] [] []
  | cons {x : Str} {p : Pos} {D : Addr} {es : List Expr} {cs : List V} {us : List Value} (hg : Gl X x) (hm : X.mg x = some (.ref D)) (r : ClsEs X es cs us) (hdb : (x == ("__debug__" : Str)) = false := by decide)
      (hs : starEach (.Name x p :: es) X.env = (false, eval (.Name x p) X.env) :: starEach es X.env := by rfl) : ClsEs X (.Name x p :: es) (.ref D :: cs) (.ref D :: us)
theorem ClsEs.run {es : List Expr} {cs : List V} {us : List Value} (h : ClsEs X es cs us) : ∃ t, PA X es t ∧ (∀ σ H (Q : List V → Hp → Prop), Q cs H → t σ H Q) ∧ Paired ClsV cs us := by
  induction h with
  | nil => exact ⟨_, pa_nil, fun σ H Q q => q, .nil⟩
  | cons hg hm r hdb hs ih =>
    obtain ⟨t, h1, h2, h3⟩ := ih
    exact ⟨_, pa_cons (pe_glob (v := .ref _) hg hm rfl hdb) h1 hs, fun σ H Q q => h2 σ H _ q, .cons (.own _) h3⟩
end
end Fw

namespace Fw
open PySem PySem.Spec PyProof.Rows L2
theorem str_len (s : String) : (Str.ofString s).length = s.length := by
  rw [Str.ofString_eq_toList]
  show (s.toList.map Char.toNat).toArray.size = _
  simp [String.length]
theorem str_app (a b : Str) : (a ++ b).length = a.length + b.length := by
  show (a.cps ++ b.cps).size = _
  simp [Str.length]
theorem toString_len {m : Int} (h0 : 0 ≤ m) (h1 : m < 1000000) : ((toString m : String) : Str).length ≤ 6 := by
  obtain ⟨n, rfl⟩ := Int.eq_ofNat_of_zero_le h0
  show (Str.ofString (toString (n : Int))).length ≤ 6
  rw [str_len]
  show (n.repr).length ≤ 6
  exact (Nat.length_repr_le_iff (by decide)).mpr (by omega)
theorem log_small {m : Int} (h0 : 0 ≤ m) (h1 : m < 1000000) : m.natAbs.log2 < 1920 := by
  have : m.natAbs < 2 ^ 20 := by omega
  by_cases hz : m.natAbs = 0
  · rw [hz]; decide
  · have := (Nat.log2_lt hz).mpr this
    omega
def spIni (K : PySem.W.Frag) (x : Str) (n : Nat) (fl : List V → Option (List (Str × V))) : Sp := fun vs H Q _ => vs.length = n + 1 ∧ ∃ (a : Addr) (ws : List V) (fs : List (Str × V)), vs = .ref a :: ws ∧ H a = some (exo a (clsAt K x) none) ∧ fl ws = some fs ∧
  ∀ (dx : Addr) (H2 : Hp), H dx = none → dx ≠ a → H2 a = some (exo a (clsAt K x) (some dx)) → H2 dx = some (exd dx fs) → (∀ b, b ≠ a → b ≠ dx → H2 b = H b) → Q .non H2
structure InitOk (P : Program) (w : World) (K : PySem.W.Frag) (mg : Str → Option Value) (base : Heap) (k : Nat) (x : Str) (n : Nat) (fl : List V → Option (List (Str × V))) : Prop where
  nz : clsAt K x ≠ 0
  g : mg x = some (.ref (clsAt K x))
  O : OexC K (clsAt K x)
  ini : ∃ (fI : Addr) (fd : FuncData) (ps : List Str), PySem.W.findIn K (.ref (clsAt K x)) "__init__" = some (some (.ref fI)) ∧ PySem.W.typeIn K (.ref fI) = some (.type "function") ∧ FnOk P w K mg base (L2.CX P w) k fI fd ps (spIni K x n fl) ∧ Binds K fd ps []
def flD' (fl : List V → Option (List (Str × V))) (fd : List D → Option (List (Str × D))) : Prop := ∀ ds vs fs, ds.map scV = vs.map some → fd ds = some fs → ∃ fvs, fl vs = some fvs ∧ fvs.map (·.1) = fs.map (·.1) ∧ (fs.map fun p => scV p.2) = fvs.map fun p => some p.2
def sRaiseX (C : Str) (fd : List D → Option (List (Str × D))) (ps : List Opd) : En → Out Fl := fun ρ => (evOps ps ρ).bind fun ds ρ' => if (ds.map scV).all (·.isSome) = true then match fd ds with
  | some fs => .ex ⟨C, fs, []⟩ ρ'
  | none => .no
  else .no
section
variable {X : Cx} {B : Bs} {T ts : Tm} {ρ : En} {σ : L2.St} {H : Hp} {F : List Addr}
theorem scV_eq {S : Gs} {Hs : Hp} {d : D} {v w : V} {G : List Addr} (r : Rp S H Hs d v G) (e : scV d = some w) : w = v := by
  cases d <;> simp [scV] at e <;> subst e <;> cases r <;> rfl
theorem OpV.scal {ps : List Opd} {ds : List D} {vs : List V} (h : R B (T ++ ts) ρ σ H F) (o : OpV B ρ σ ps ts ds vs) (e : (ds.map scV).all (·.isSome) = true) : ds.map scV = vs.map some := by
  apply List.ext_getElem?
  intro k
  rw [List.getElem?_map, List.getElem?_map]
  cases e1 : ds[k]? with
  | none =>
    have : vs[k]? = none := by
      rw [List.getElem?_eq_none_iff] at e1 ⊢
      rw [← o.len]; exact e1
    rw [this]; rfl
  | some d =>
    obtain ⟨v, G, hv, r⟩ := o.at h k d e1
    rw [hv]
    have := List.all_eq_true.mp e (scV d) (List.mem_map.mpr ⟨d, List.mem_of_getElem? e1, rfl⟩)
    obtain ⟨w, hw⟩ := Option.isSome_iff_exists.mp this
    simp only [Option.map_some, hw]
    rw [scV_eq r.1 hw]
theorem es_raiseX {C : Str} {n k : Nat} {fl : List V → Option (List (Str × V))} {fd : List D → Option (List (Str × D))} {ps : List Opd} {e : Expr} {es : List Expr} {p pos pos2 : Pos} (I : InitOk X.prog X.w X.K X.mg X.base k C n fl) (hfl : flD' fl fd) (hr : Room (k + 1) X.A) (hcl : B.S.cl = clsAt X.K) (tk : Takes X B.W) (hc : X.calm = true) (hg : Gl X C)
    (ha : EA X B (e :: es) ps) (hn : ps.length = n := by rfl) (hz : ps.length ≤ 1000 := by decide) (hdb : (C == ("__debug__" : Str)) = false := by decide) (he : starEach (e :: es) X.env = (false, eval e X.env) :: starEach es X.env := by rfl) (hpl : (backTo pos (starEach es X.env)).any (·.1) = false := by rfl) :
    PS X (.Raise (some (.Call (.Name C p) (e :: es) [] pos)) none pos2) (cS B (sRaiseX C fd ps)) := by
  obtain ⟨fI, fdI, pn, i1, i2, G, hb⟩ := I.ini
  refine (ps_raise hc tk (pmk_oex (ta := tOps B ps) I.O i1 i2 G hr hb .nil (fun _ _ _ _ _ _ _ c => ?_) hg I.g ha.run hdb he hpl)).imp fun D' σ H ⟨T, ρ, F, r, q⟩ => ?_
  · obtain ⟨_, _, _, _, _, _, _, _, _, _, _, _, z⟩ := c
    exact z.elim
  · refine ops_run r (Out.wp_mono (Out.wp_bind q) (fun ds ρ' q vs H' F' ts r' o => ?_) fun _ _ z => exS z)
    split at q
    · rename_i hsc
      have hscal := o.scal r' hsc
      split at q
      · rename_i fs ef
        obtain ⟨fvs, f1, f2, f3⟩ := hfl _ _ _ hscal ef
        have hlen : vs.length = n := by rw [← o.len, ops_len o, hn]
        refine ⟨by rw [hlen, ← hn]; exact hz, fun a ha => ?_⟩
        rw [List.append_nil]
        refine ⟨by simp [hlen], a, vs, fvs, rfl, upd_same, f1, fun dx H2 hdx ne h1 h2 h3 => ?_⟩
        have hdx0 : H' dx = none := by rw [upd_ne ne] at hdx; exact hdx
        refine ⟨rfl, dx, fvs, h1, h2, hdx0, ?_⟩
        have up : ∀ b u, H' b = some u → upd (del H2 a) dx (.xd fvs) b = some u := fun b u z => by
          have n1 : b ≠ dx := ne_of_none z hdx0
          have n2 : b ≠ a := ne_of_none z ha
          rw [upd_ne n1, del_ne n2, h3 b n2 n1, upd_ne n2]; exact z
        have hl : HLen (upd (del H2 a) dx (.xd fvs)) := by
          refine HLen.upd (fun b us z => ?_) (by intro vs z; rcases z with z | z <;> cases z)
          by_cases n2 : b = a
          · subst n2
            rw [del_same] at z
            rcases z with z | z <;> cases z
          · rw [del_ne n2] at z
            by_cases n1 : b = dx
            · subst n1
              rw [h2] at z
              rcases z with z | z <;> cases (show HO.ext _ = _ from Option.some.inj z)
            · rw [h3 b n2 n1, upd_ne n2] at z
              exact r'.hl b us z
        have r2 := r'.grow up hl
        have hM : dx ∉ B.M ++ F' := fun z => by
          rcases List.mem_append.mp z with z | z
          · exact (r'.md dx z).ne hdx0
          · exact r'.own dx z hdx0
        refine q (.ref (clsAt X.K C)) (some dx) σ _ F' ⟨by rw [hcl], by show B.S.cl C ≠ 0; rw [hcl]; exact I.nz, fvs, hid_of upd_same hM, f2, f3⟩ r2.drop
      · exact q.elim
    · exact q.elim
end
def flBar : List V → Option (List (Str × V))
  | [.int m, .str w] => if 0 ≤ m ∧ m < 1000000 ∧ w.length ≤ 1000 then some [("word", .str w), ("move", .int m)] else none
  | _ => none
def fdBar : List D → Option (List (Str × D))
  | [.int m, .str w] => if 0 ≤ m ∧ m < 1000000 ∧ w.length ≤ 1000 then some [("word", .str w), ("move", .int m)] else none
  | _ => none
theorem fl_bar : flD' flBar fdBar := fun ds vs fs e h => by
  unfold fdBar at h
  split at h
  · split at h
    · rename_i m w c
      cases h
      match vs, e with
      | [v1, v2], e =>
        simp [scV] at e
        obtain ⟨rfl, rfl⟩ := e
        exact ⟨_, if_pos c, rfl, rfl⟩
    · cases h
  · cases h
def tx_Barred : List (Str × Bool) := [("Barred", true), ("NoMove", false), ("NoTree", false), ("TooMany", false), ("BadRow", false)]
theorem clsAt_eq {K : PySem.W.Frag} {x : Str} {C : Addr} (h : PySem.W.nsIn K mainGlobals x = some (some (.ref C))) : clsAt K x = C := by unfold clsAt; rw [h]
theorem clsAt_none {K : PySem.W.Frag} {x : Str} (h : PySem.W.nsIn K mainGlobals x = some none) : clsAt K x = 0 := by unfold clsAt; rw [h]
theorem ext_no {K : PySem.W.Frag} {c : Value} {e : Str} {b : Bool} {tab : List (Str × Bool)} (h : PySem.W.nsIn K mainGlobals e = some none) (r : ExT K c tab) : ExT K c ((e, b) :: tab) := ext_cons (fun z => absurd (clsAt_none h) z) r
structure XF (K : PySem.W.Frag) (C : Addr) : Prop where
  nz : (C == 0) = false
  k : PySem.W.keepIn K (.ref C) = true
  b : PySem.W.subIn K (.ref C) (.type "BaseException") = some true
  t : PySem.W.typeIn K (.ref C) = some (.type "type")
  hd : PySem.W.hasDictIn K C = true
  hg : PySem.W.findIn K (.ref C) "__getattribute__" = some (some (.builtin "BaseException.__getattribute__"))
  hk : PySem.W.findIn K (.ref C) "__getattr__" = some none
  ha : PySem.W.findIn K (.ref C) "__class__" = some (some (.builtin "object.__class__"))
  hm : PySem.W.mroIn K C (.type "object") = some true
  ss : PySem.W.subIn K (.ref C) (.ref C) = some true
  sv : PySem.W.subIn K (.ref C) (.type "ValueError") = some true
theorem XF.ne {K : PySem.W.Frag} {C : Addr} (h : XF K C) : C ≠ 0 := by simpa using h.nz
end Fw

namespace Fw
open PySem L2
def tyK (tab : List (Str × Bool)) (s : En → Out Fl) : Out Fl → Out Fl
  | .ok fl ρ => .ok fl ρ
  | .ex x ρ' => match tab.lookup x.cls with
    | some true => noEx (s ρ')
    | some false => .ex x ρ'
    | none => .no
  | .no => .no
@[simp] theorem sTry_eq (tab : List (Str × Bool)) (b s : En → Out Fl) (ρ : En) : sTry tab b s ρ = tyK tab s (b ρ) := by
  rw [sTry]; cases b ρ <;> rfl
@[simp] theorem tyK_ok (tab : List (Str × Bool)) (s : En → Out Fl) (fl : Fl) (ρ : En) : tyK tab s (.ok fl ρ) = .ok fl ρ := rfl
theorem tyK_ex {tab : List (Str × Bool)} {s : En → Out Fl} {x : Exc} {ρ : En} (h : tab.lookup x.cls = some true) : tyK tab s (.ex x ρ) = noEx (s ρ) := by
  rw [tyK]; simp only [h]
@[simp] theorem sRaise0_eq (C : Str) (ρ : En) : sRaise0 C ρ = .ex ⟨C, [], []⟩ ρ := rfl
def rxK (C : Str) (fd : List D → Option (List (Str × D))) : Out (List D) → Out Fl
  | .ok ds ρ' => if (ds.map scV).all (·.isSome) = true then match fd ds with
    | some fs => .ex ⟨C, fs, []⟩ ρ'
    | none => .no
    else .no
  | .ex x ρ => .ex x ρ
  | .no => .no
@[simp] theorem sRaiseX_eq (C : Str) (fd : List D → Option (List (Str × D))) (ps : List Opd) (ρ : En) : sRaiseX C fd ps ρ = rxK C fd (evOps ps ρ) := by
  rw [sRaiseX]; cases evOps ps ρ <;> rfl
def exB (m : Int) (w : Str) : Exc := ⟨"Barred", [("word", .str w), ("move", .int m)], []⟩
theorem rxK_ok {C : Str} {fd : List D → Option (List (Str × D))} {ds : List D} {ρ : En} {fs : List (Str × D)} (h1 : (ds.map scV).all (·.isSome) = true) (h2 : fd ds = some fs) : rxK C fd (.ok ds ρ) = .ex ⟨C, fs, []⟩ ρ := by
  rw [rxK, if_pos h1, h2]
theorem rx_bar {m : Int} {w : Str} {ρ : En} (h0 : 0 ≤ m) (h1 : m < 1000000) (h2 : w.length ≤ 1000) : rxK "Barred" fdBar (.ok [.int m, .str w] ρ) = .ex (exB m w) ρ :=
  rxK_ok rfl (if_pos ⟨h0, h1, h2⟩)
@[simp] theorem opIsN_ev (C : Str) (fs : List Str) (xs : List D) : opIsN [.ev C fs xs, .non] = some (.bl false) := rfl
@[simp] theorem opNoN_ev (C : Str) (fs : List Str) (xs : List D) : opNoN [.ev C fs xs, .non] = some (.bl true) := rfl
@[simp] theorem fz_ev (C : Str) (fs : List Str) (xs : List D) : fz (.ev C fs xs) = .ev C fs xs := by unfold fz; simp
@[simp] theorem tx_Barred_Barred : List.lookup ("Barred" : Str) tx_Barred = some true := rfl
@[simp] theorem tx_Barred_NoMove : List.lookup ("NoMove" : Str) tx_Barred = some false := rfl
@[simp] theorem tx_Barred_NoTree : List.lookup ("NoTree" : Str) tx_Barred = some false := rfl
@[simp] theorem tx_Barred_TooMany : List.lookup ("TooMany" : Str) tx_Barred = some false := rfl
@[simp] theorem tx_Barred_BadRow : List.lookup ("BadRow" : Str) tx_Barred = some false := rfl
end Fw

set_option maxHeartbeats 2000000
namespace Fw
open PySem PySem.Spec PyProof.Rows L2
section
variable {prog : Program} {w : World} {A : Around} {E : Value → Shared → Prop} {s : Shared}
end
section
variable {X : Cx} {B : Bs} {e st : Expr} {te tk : TE} {pos p2 : Pos}
variable {T ts : Tm} {ρ : En} {σ : L2.St} {H : Hp} {F : List Addr} {pa : Opd} {fk : En → Out D} {a : Expr}
@[simp] theorem lcK_ex (t : D → En → Option En) (c : En → Out Bool) (elt : En → Out D) (own : List Nat) (x : Exc) (ρ : En) : lcK t c elt own (.ex x ρ) = .ex x ρ := (rfl)
end
section
variable {X : Cx} {B : Bs} {T : Tm} {ρ : En} {σ : L2.St} {H : Hp} {F : List Addr} {pos : Pos}
end
end Fw

set_option maxHeartbeats 2000000
namespace Fw
open PySem PySem.Spec PyProof.Rows L2
def PinD (K : PySem.W.Frag) (S : Gs) (H0 : Hp) (p : Addr × Obj) (x : Exc) : Prop := ∃ d : Option Addr, Zc (.ref (clsAt K x.cls)) d p.2 ∧ (∃ vs, p.2.data = .fields vs) ∧ clsAt K x.cls ≠ 0 ∧ (d = none → x.fs = []) ∧
  ∀ dd, d = some dd → dd ∉ sA S ∧ ∃ fvs, H0 dd = some (.xd fvs) ∧ fvs.map (·.1) = x.fs.map (·.1) ∧ (x.fs.map fun p => scV p.2) = fvs.map fun p => some p.2
theorem PinD.at {K : PySem.W.Frag} {S : Gs} {H0 H1 : Hp} {p : Addr × Obj} {x : Exc} (h : PinD K S H0 p x) (k : ∀ a o, H0 a = some o → a ∉ sA S → H1 a = some o) : PinD K S H1 p x := by
  obtain ⟨d, h1, h2, h3, h4, h5⟩ := h
  refine ⟨d, h1, h2, h3, h4, fun dd e => ?_⟩
  obtain ⟨n, fvs, f1, f2⟩ := h5 dd e
  exact ⟨n, fvs, k _ _ f1 n, f2⟩
def PinX (X : Cx) (B : Bs) (a : Addr) (x : Exc) : Prop := ∃ oe, (a, oe) ∈ X.pn ∧ PinD X.K B.S B.H0 (a, oe) x
def HasP (X : Cx) (H : Hp) (a D : Addr) : Prop := ∃ (oe : Obj) (d : Option Addr), (a, oe) ∈ X.pn ∧ Zc (.ref D) d oe ∧ (∃ vs, oe.data = .fields vs) ∧ ∀ dd, d = some dd → ∃ fs, H dd = some (.xd fs)
theorem HasP.mono {X : Cx} {H H' : Hp} {a D : Addr} (h : HasP X H a D) (k : ∀ b o, H b = some o → H' b = some o) : HasP X H' a D := by
  obtain ⟨oe, d, h1, h2, h3, h4⟩ := h
  exact ⟨oe, d, h1, h2, h3, fun dd e => let ⟨fs, z⟩ := h4 dd e; ⟨fs, k _ _ z⟩⟩
section
variable {X : Cx}
end
section
variable {X : Cx} {B : Bs} {T ts : Tm} {ρ : En} {σ : L2.St} {H : Hp} {F : List Addr} {tab : List (Str × Bool)} {xx : Exc} {a : Addr} {i : Nat} {n : Str} {pos p p1 p2 : Pos} {x : Str} {en : Expr}
theorem PinX.cls (P : PinX X B a xx) : clsAt X.K xx.cls ≠ 0 := by
  obtain ⟨oe, hp, d, h1, h2, h3, h4, h5⟩ := P
  exact h3
end
def Bs.inS (B : Bs) (H0 : Hp) (i : Nat) (a : Addr) : Bs := { H0 := H0, S := B.S, M := B.M, W := WF, me := fun j => if j = i then some a else B.me j, fo := B.fo, fn := B.fn, fv := B.fv, oa := B.oa, oc := B.oc }
section
variable {X : Cx} {B : Bs} {T : Tm} {ρ : En} {σ : L2.St} {H : Hp} {F : List Addr} {i : Nat} {a : Addr} {H0 : Hp}
theorem R.toS (h : R B T ρ σ H F) (hf : B.free [i] = true) (hi : i < σ.length) (h1 : ∀ b o, H0 b = some o → b ∉ sA B.S → H b = some o) (h2 : ∀ b ∈ F, H0 b = none) : R (B.inS H0 i a) T { ρ with vs := ρ.vs.set i .no } (σ.set i (some (.ref a))) H F := by
  have h' := h.noSlot (i := i) (o := some (.ref a)) hf
  obtain ⟨a1, b1, b2, ⟨fp, p1, p2, p3, p4, p5⟩, a3, a4, a5, a6, a7, a8, a9, a10, a11⟩ := h'
  refine ⟨a1, b1, b2, ⟨fp, p1, p2, p3, p4, p5⟩, a3, a4, a5, a6, h1, h2, a9, a10, fun j b q => ?_⟩
  by_cases c : j = i
  · subst c
    have : some a = some b := by simpa [Bs.inS] using q
    cases this
    rw [List.getElem?_set_self hi]
  · have : B.me j = some b := by simpa [Bs.inS, c] using q
    exact a11 j b this
variable {x n : Str} {c : Value} {body suite : List Stmt} {b₀ : Stmt} {np pos pos' : Pos} {tab : List (Str × Bool)} {fb : En → Out Fl} {fs : Exc → En → Out Fl}
end
section
open L2H
structure FnP (P : Program) (w : World) (K : PySem.W.Frag) (mg : Str → Option Value) (base : Heap) (k : Nat) (f : Addr) (fd : FuncData) (ps : List Str) (sp : Addr × Obj → Sp) : Prop where
  len : ∀ p vs H Q E, sp p vs H Q E → vs.length = ps.length
  run : ∀ (A : Around) (outer : List Env) (s : Shared) (H : Hp) (args : Args) (us : List Value) (vs : List V) (Q : VK) (E : XK) (p : Addr × Obj), RoomH k A → PinOk outer H s p → Env0 P w K mg base A outer s H → BindsTo s fd args (ps.zip us) → Vals vs us → sp p vs H Q E →
    codeAny (model P w) A (.call (.ref f) args) (CR CX0 outer P w H s Q E) s
variable {P : Program} {w : World} {K : PySem.W.Frag} {mg : Str → Option Value} {base : Heap}
def spP (K : PySem.W.Frag) (x : Exc) (r : Exc → RSt → Res) (p : Addr × Obj) : Sp := fun vs H Q E => vs = [.ref p.1] ∧ ∃ S M st, S.cl = clsAt K ∧ PinD K S H p x ∧ StOk S st H ∧ (∀ a ∈ sA S, a ∈ M) ∧ (∀ a ∈ M, Nt H a) ∧ HLen H ∧ match r x st with
  | .ok d st' => ∀ v H' Fr, Ext S H H' → StOk S st' H' → HLen H' → (∀ a ∈ Fr, H a = none) → Fr.Nodup → (∀ a ∈ Fr, H' a ≠ none) → Rp S H' (hid (M ++ Fr) H') d v Fr → Q v H'
  | _ => False
def CalOkP (P : Program) (w : World) (K : PySem.W.Frag) (mg : Str → Option Value) (base : Heap) (k : Nat) (x : Str) (r : Exc → RSt → Res) : Prop :=
  ∃ (f : Addr) (fd : FuncData) (ps : List Str), mg x = some (.ref f) ∧ PySem.W.keepIn K (.ref f) = true ∧ Binds K fd ps [] ∧ ∀ xx, FnP P w K mg base k f fd ps (spP K xx r)
theorem CalOkP.mono {k k' : Nat} {x : Str} {r : Exc → RSt → Res} (h : CalOkP P w K mg base k x r) (hk : k ≤ k') : CalOkP P w K mg base k' x r := by
  obtain ⟨f, fd, pn, hm, hkp, hb, G⟩ := h
  exact ⟨f, fd, pn, hm, hkp, hb, fun xx => ⟨(G xx).len, fun A outer s H args us vs Q E p hr => (G xx).run A outer s H args us vs Q E p (hr.mono hk)⟩⟩
variable {X : Cx} {B : Bs} {a : Addr} {i : Nat} {xx : Exc}
end
end Fw

set_option maxHeartbeats 2000000
namespace Fw
open PySem PySem.Spec PyProof.Rows L2
section
variable {prog : Program} {w : World} {A : Around} {s : Shared}
end
section
variable {X : Cx}
end
section
variable {B : Bs}
end
def opSortR : List D → Option D
  | [.lst _ xs] => (intsOf xs).map fun ns => .lst true ((sortI ns).reverse.map .int)
  | _ => none
section
variable {X : Cx} {B : Bs} {e : Expr} {ps : List Opd}
@[simp] theorem opSortR_i (o : Bool) (xs : List Int) : opSortR [.lst o (xs.map .int)] = some (.lst true ((sortI xs).reverse.map .int)) := by simp [opSortR]
end
end Fw

set_option maxHeartbeats 2000000
namespace Fw
open PySem PySem.Spec PyProof.Rows L2
section
variable {X : Cx} {B : Bs}
end
def itemsP (ks : List Key) (xs : List D) : Option (List (Int × Int)) := (intKeys ks).bind fun ns => (intsOf xs).map fun ms => ns.zip ms
def opSortIt : D → Option D
  | .dk true ks xs => (itemsP ks xs).map fun ps => .lst true ((sortP ps).map ipD)
  | _ => none
def evSortIt (f : En → Out D) : En → Out D := fun ρ => (f ρ).bind fun d ρ1 => match opSortIt d with
  | some y => .ok y ρ1
  | none => .no
section
variable {X : Cx} {B : Bs} {e : Expr} {f : En → Out D} {p apos cpos pos : Pos}
end
end Fw

namespace Cm
open PySem Fw L2
def g_law_tree_net : En → Out Fl := (sqS (sAs 2 (evLst [])) (sqS (sAs 3 (evLst [])) (sqS (sFor (itRg [(.val (evOp [(.var 1), (.val (evC (.int 1)))] opSub))]) (tgN 4) (sqS (sAs 5 (evOp [(.val (evOp [(.var 2)] opLen)), (.val (evOp [(.val (evLst [(evC (.int 0)), (evC (.int 0)), (evC (.int 1)), (evC (.int 2)), (evC (.int 2)), (evC (.int 3))])), (.val (evCall takeD [(.var 0), (.val (evC (.int 6)))]))] opIxA))] opMin2)) (sqS (sMe1 moApp 3 (evOp [(.val (evSl (.var 2) (some (evOp [(.val (evOp [(.var 2)] opLen)), (.var 5)] opSub)) none))] opTuple)) (sAs 2 (evOp [(.val (evSl (.var 2) none (some (evOp [(.val (evOp [(.var 2)] opLen)), (.var 5)] opSub)))), (.val (evLst [(evVar 4)]))] opAdd)))) [4, 5]) (sRet (evOp [(.val (evOp [(.var 3), (.val (evLst [(evOp [(.var 2)] opTuple)]))] opAdd))] opTuple)))))
def d_law_tree_net : Den := fnRes g_law_tree_net 4
def g_law_some_needs : En → Out Fl := (sqS (sAs 2 (evLst [])) (sqS (sFor (itRg [(.val (evCall takeD [(.var 0), (.val (evC (.int 5)))]))]) (tgN 3) (sqS (sAs 4 (evOp [(.val (evLst [(evOp [(.var 1), (.val (evC (.int 4)))] opMin2), (evVar 1)])), (.val (evOp [(.val (evCall takeD [(.var 0), (.val (evC (.int 4)))])), (.val (evC (.int 3)))] opFd))] opIxA)) (sIf (evTOp [(.var 1), (.val (evC (.int 0)))] opGt) (sMe1 moApp 2 (evOp [(.val (evOp [(.var 1), (.val (evC (.int 1)))] opSub)), (.val (evCall takeD [(.var 0), (.var 4)]))] opSub)) nxS)) [3, 4]) (sRet (evOp [(.val (evOp [(.var 2)] opSSet))] opTuple))))
def d_law_some_needs : Den := fnRes g_law_some_needs 3
def g_law_net : En → Out Fl := (sqS (sAs 2 (evCall takeD [(.var 0), (.val (evC (.int 8)))])) (sqS (sAs 3 (evOp [(.val (evC (.int 1))), (.val (evCall takeD [(.var 0), (.val (evC (.int 4)))]))] opAdd)) (sqS (sIf (evTOp [(.var 2), (.val (evC (.int 0)))] opEq) (sRet (evOp [(.val (evLc (itRg [(.var 1)]) (tgN 4) evYes (evOp [(.val (evOp [(.val (evC (.int 0))), (.val (evOp [(.var 4), (.var 3)] opSub))] opMax2)), (.var 4)] opRgT2) [4]))] opTuple)) nxS) (sqS (sIf (evTOp [(.var 2), (.val (evC (.int 1)))] opEq) (sqS (sAs 5 (evLc (itRg [(.var 1)]) (tgN 4) evYes (evOp [(.val (evOp [(.val (evLst [(evOp [(.var 4), (.var 3)] opSub)])), (.val (evOp [(.val (evOp [(.var 4), (.var 3)] opGe))] opInt))] opMul)), (.val (evOp [(.val (evLst [(evOp [(.var 4), (.val (evC (.int 1)))] opSub)])), (.val (evOp [(.val (evOp [(.val (evOp [(.var 4), (.var 3)] opMd)), (.val (evC (.int 0)))] opGt))] opInt))] opMul))] opAdd) [4])) (sRet (evOp [(.val (evLc (itSeq (evVar 5)) (tgN 6) evYes (evOp [(.val (evOp [(.var 6)] opSSet))] opTuple) [6]))] opTuple))) nxS) (sqS (sIf (evTOp [(.var 2), (.val (evC (.int 2)))] opEq) (sRet (evCall Cm.d_law_tree_net [(.var 0), (.var 1)])) nxS) (sqS (sIf (evTOp [(.var 2), (.val (evC (.int 3)))] opEq) (sqS (sAs 7 (evOp [(.var 1), (.val (evC (.int 2)))] opFd)) (sqS (sAs 5 (evLc (itRg [(.var 1)]) (tgN 4) evYes (evCall Cm.d_law_some_needs [(.var 0), (.val (evIf (evTOp [(.var 4), (.var 7)] opLt) (evVar 4) (evOp [(.var 4), (.var 7)] opSub)))]) [4])) (sRet (evOp [(.val (evLc (itEnV (evVar 5)) (tgT [4, 6]) evYes (evIf (evTOp [(.var 4), (.var 7)] opLt) (evVar 6) (evOp [(.val (evLc (itSeq (evVar 6)) (tgN 8) evYes (evOp [(.var 8), (.var 7)] opAdd) [8]))] opTuple)) [4, 6]))] opTuple)))) nxS) (sRet (evOp [(.val (evLc (itRg [(.var 1)]) (tgN 4) evYes (evCall Cm.d_law_some_needs [(.var 0), (.var 4)]) [4]))] opTuple))))))))
def d_law_net : Den := fnRes g_law_net 7
def g_law_word : En → Out Fl := (sqS (sIf (evTOp [(.val (evOp [(.var 3), (.val (evC (.int 0)))] opIxA)), (.val (evC (.str "clear")))] opEq) (sRet (evIf (evTOp [(.val (evOp [(.var 3), (.val (evC (.int 1)))] opIxA)), (.var 2)] (opIn false)) (evC .non) (evC (.str "empty")))) nxS) (sqS (sIf (evTOp [(.val (evOp [(.var 3), (.val (evC (.int 1)))] opIxA)), (.var 2)] (opIn false)) (sRet (evC (.str "there"))) nxS) (sqS (sIf (evTNot (evT (evOp [(.val (evLc (itSeq (evOp [(.var 0), (.val (evOp [(.var 3), (.val (evC (.int 1)))] opIxA))] opIxA)) (tgN 4) evYes (evOp [(.var 4), (.var 2)] (opIn false)) [4]))] opAll))) (sRet (evC (.str "needs"))) nxS) (sRet (evIf (evTOp [(.val (evOp [(.var 2)] opLen)), (.var 1)] opGe) (evC (.str "full")) (evC .non))))))
def d_law_word : Den := fnRes g_law_word 1
def g_fault_of : En → Out Fl := (sqS (sAsT (tgT [4, 5]) (evVar 3)) (sqS (sAs 6 (evOp [(.var 5), (.var 2)] (opIn false))) (sqS (sIf (evTOp [(.var 4), (.val (evC (.str "clear")))] opEq) (sRet (evIf (evT (evVar 6)) (evC .non) (evC (.str "empty")))) nxS) (sqS (sIf (evT (evVar 6)) (sRet (evC (.str "there"))) nxS) (sqS (sIf (evTNot (evT (evOp [(.val (evLc (itSeq (evOp [(.var 0), (.var 5)] opIxA)) (tgN 7) evYes (evOp [(.var 7), (.var 2)] (opIn false)) [7]))] opAll))) (sRet (evC (.str "needs"))) nxS) (sRet (evIf (evTOp [(.val (evOp [(.var 2)] opLen)), (.var 1)] opLt) (evC .non) (evC (.str "full")))))))))
def d_fault_of : Den := fnRes g_fault_of 4
def g_all_needed : En → Out Fl := (sqS (sAs 2 (evOp [(.val (evLst [(evC (.bl false))])), (.val (evOp [(.var 0)] opLen))] opMul)) (sqS (sFor (itSeq (evVar 1)) (tgN 3) (sSet 2 (evVar 3) (evC (.bl true))) [3]) (sqS (sFor (itRgC [(.val (evOp [(.val (evOp [(.var 0)] opLen)), (.val (evC (.int 1)))] opSub)), (.val (evOp [(.val (evC (.int 1)))] opNeg)), (.val (evOp [(.val (evC (.int 1)))] opNeg))]) (tgN 3) (sIf (evT (evOp [(.var 2), (.var 3)] opIxA)) (sFor (itSeq (evOp [(.var 0), (.var 3)] opIxA)) (tgN 4) (sSet 2 (evVar 4) (evC (.bl true))) [4]) nxS) [3, 4]) (sRet (evLc (itRg [(.val (evOp [(.var 0)] opLen))]) (tgN 3) (evT (evOp [(.var 2), (.var 3)] opIxA)) (evVar 3) [3])))))
def d_all_needed : Den := fnRes g_all_needed 3
def g_law_put : En → Out Fl := (sqS (sAs 2 (evOp [(.var 0)] opList)) (sqS (sFor (itSeq (evVar 1)) (tgN 3) (sMe1 moApp 2 (evOp [(.val (evLc (itSeq (evVar 3)) (tgN 4) evYes (evOp [(.var 4), (.val (evOp [(.var 0)] opLen))] opAdd) [4]))] opTuple)) [3]) (sRet (evOp [(.var 2)] opTuple))))
def d_law_put : Den := fnRes g_law_put 3
def g_plan_in : En → Out Fl := (sqS (sAs 3 evNewK) (sqS (sFor (itEnV (evVar 2)) (tgT [4, 5]) (sFor (itSeq (evOp [(.var 0), (.var 5)] opIxA)) (tgN 6) (sSet 3 (evVar 6) (evVar 4)) [6]) [4, 5, 6]) (sqS (sAs 7 (evLst [])) (sqS (sFor (itEnV (evVar 2)) (tgT [4, 5]) (sqS (sMe1 moApp 7 (evTup [(evC (.str "do")), (evVar 5)])) (sMe1 moExt 7 (evLc (itSeq (evOp [(.var 0), (.var 5)] opIxA)) (tgN 6) (evTAnd (evTOp [(.val (evOp [(.var 3), (.var 6)] opIxA)), (.var 4)] opEq) (evTOp [(.var 6), (.var 1)] (opIn true))) (evTup [(evC (.str "clear")), (evVar 6)]) [6]))) [4, 5]) (sRet (evMove 7))))))
def d_plan_in : Den := fnRes g_plan_in 5
def g_plain_plan : En → Out Fl := (sRet (evCall Cm.d_plan_in [(.var 0), (.var 1), (.val (evCall Cm.d_all_needed [(.var 0), (.var 1)]))]))
def d_plain_plan : Den := fnRes g_plain_plan 0
def g_law_is_move : En → Out Fl := (sqS (sIf (evTOr (evTNot (evT (evOp [(.var 1)] (opIsi .tuple)))) (evTOr (evTOp [(.val (evOp [(.var 1)] opLen)), (.val (evC (.int 2)))] opNe) (evTOp [(.val (evOp [(.var 1), (.val (evC (.int 0)))] opIxA)), (.val (evTup [(evC (.str "do")), (evC (.str "clear"))]))] (opIn true)))) (sRet (evC (.bl false))) nxS) (sRet (evAnd (evOp [(.val (evOp [(.var 1), (.val (evC (.int 1)))] opIxA))] (opIsi .int)) (evAnd (evNot (evOp [(.val (evOp [(.var 1), (.val (evC (.int 1)))] opIxA))] (opIsi .bool))) (evChI (fun i j => decide (i ≤ j)) (fun i j => decide (i < j)) (evC (.int 0)) (evOp [(.var 1), (.val (evC (.int 1)))] opIxA) (evOp [(.var 0)] opLen))))))
def d_law_is_move : Den := fnRes g_law_is_move 0
def g_law_behind : En → Out Fl := (sqS (sIf (evTOp [(.val (evOp [(.var 1), (.val (evC (.int 0)))] opIxA)), (.val (evC (.str "do")))] opEq) (sRet (evOp [(.val (evOp [(.val (evOp [(.var 0), (.val (evTup [(evOp [(.var 1), (.val (evC (.int 1)))] opIxA)]))] opAdd))] opSort))] opTuple)) nxS) (sRet (evOp [(.val (evLc (itSeq (evVar 0)) (tgN 2) (evTOp [(.var 2), (.val (evOp [(.var 1), (.val (evC (.int 1)))] opIxA))] opNe) (evVar 2) [2]))] opTuple)))
def d_law_behind : Den := fnRes g_law_behind 1
def g_law_played : En → Out Fl := (sqS (sAs 3 (evLst [(evTup [])])) (sqS (sFor (itSeq (evVar 2)) (tgN 4) (sqS (sAs 5 (evCall Cm.d_law_word [(.var 0), (.var 1), (.val (evOp [(.var 3), (.val (evOp [(.val (evC (.int 1)))] opNeg))] opIxA)), (.var 4)])) (sqS (sIf (evTOp [(.var 5), (.val (evC .non))] opNoN) (sRet (evTup [(evMove 3), (evMove 5)])) nxS) (sMe1 moApp 3 (evCall Cm.d_law_behind [(.val (evOp [(.var 3), (.val (evOp [(.val (evC (.int 1)))] opNeg))] opIxA)), (.var 4)])))) [4, 5]) (sRet (evTup [(evMove 3), (evC .non)]))))
def d_law_played : Den := fnRes g_law_played 3
def g_law_does : En → Out Fl := (sqS (sIf (evTOr (evTNot (evT (evOp [(.var 2)] (opIsi .list)))) (evTNot (evT (evOp [(.val (evLc (itSeq (evVar 2)) (tgN 4) evYes (evCall Cm.d_law_is_move [(.var 0), (.var 4)]) [4]))] opAll)))) (sRet (evC (.bl false))) nxS) (sqS (sAsT (tgT [5, 6]) (evCall Cm.d_law_played [(.var 0), (.var 1), (.var 2)])) (sRet (evAnd (evOp [(.var 6), (.val (evC .non))] opIsN) (evOp [(.val (evLc (itSeq (evVar 3)) (tgN 7) evYes (evOp [(.var 7), (.val (evOp [(.var 5), (.val (evOp [(.val (evC (.int 1)))] opNeg))] opIxA))] (opIn false)) [7]))] opAll)))))
def d_law_does : Den := fnRes g_law_does 4
def g_is_tree : En → Out Fl := (sqS (sAs 2 evNewK) (sqS (sFor (itSeq (evCall Cm.d_all_needed [(.var 0), (.val (evTup [(evVar 1)]))])) (tgN 3) (sFor (itSeq (evOp [(.var 0), (.var 3)] opIxA)) (tgN 4) (sSet 2 (evVar 4) (evOp [(.val (evGet2 2 (evVar 4) (evC (.int 0)))), (.val (evC (.int 1)))] opAdd)) [4]) [3, 4]) (sRet (evOp [(.val (evLcD .keys 2 (tgN 4) evYes (evOp [(.val (evOp [(.var 2), (.var 4)] opIxA)), (.val (evC (.int 1)))] opEq) [4]))] opAll))))
def d_is_tree : Den := fnRes g_is_tree 3
def g_stand_behind : En → Out Fl := (sqS (sAsT (tgT [2, 3]) (evVar 1)) (sqS (sIf (evTOp [(.var 2), (.val (evC (.str "do")))] opEq) (sRet (evOp [(.val (evOp [(.val (evOp [(.var 0), (.val (evTup [(evVar 3)]))] opAdd))] opSort))] opTuple)) nxS) (sRet (evOp [(.val (evLc (itSeq (evVar 0)) (tgN 4) (evTOp [(.var 4), (.var 3)] opNe) (evVar 4) [4]))] opTuple))))
def d_stand_behind : Den := fnRes g_stand_behind 3
def g_moved : En → Out Fl := (sqS (sAs 4 (evCall Cm.d_fault_of [(.var 0), (.var 1), (.var 2), (.var 3)])) (sqS (sIf (evTOp [(.var 4), (.val (evC .non))] opNoN) (sRaiseX "Barred" fdBar [(.val (evC (.int 0))), (.var 4)]) nxS) (sRet (evCall Cm.d_stand_behind [(.var 2), (.var 3)]))))
def d_moved : Den := fnRes g_moved 1
def g_played : En → Out Fl := (sqS (sAs 3 (evLst [(evTup [])])) (sqS (sFor (itEnA (evVar 2)) (tgT [4, 5]) (sqS (sAs 6 (evCall Cm.d_fault_of [(.var 0), (.var 1), (.val (evOp [(.var 3), (.val (evOp [(.val (evC (.int 1)))] opNeg))] opIxA)), (.var 5)])) (sqS (sIf (evTOp [(.var 6), (.val (evC .non))] opNoN) (sRaiseX "Barred" fdBar [(.var 4), (.var 6)]) nxS) (sMe1 moApp 3 (evCall Cm.d_moved [(.var 0), (.var 1), (.val (evOp [(.var 3), (.val (evOp [(.val (evC (.int 1)))] opNeg))] opIxA)), (.var 5)])))) [4, 5, 6]) (sRet (evMove 3))))
def d_played : Den := fnRes g_played 4
def g_look_tree : En → Out Fl := (sIf (evTNot (evT (evCall Cm.d_is_tree [(.var 0), (.var 1)]))) (sRaise0 "NoTree") nxS)
def d_look_tree : Den := fnRes g_look_tree 0
def g_number_above : En → Out Fl := (sqS (sAs 1 (evOp [(.var 0)] opSortR)) (sqS (sIf (evTOp [(.val (evOp [(.var 1)] opLen)), (.val (evC (.int 0)))] opEq) (sRet (evC (.int 1))) nxS) (sRet (evOp [(.val (evOp [(.val (evFz (evLst [(evOp [(.val (evOp [(.var 1)] opLen)), (.val (evC (.int 1)))] opAdd)]))), (.val (evLc (itEnV (evVar 1)) (tgT [2, 3]) evYes (evOp [(.var 3), (.var 2)] opAdd) [2, 3]))] opAdd))] opMaxL))))
def d_number_above : Den := fnRes g_number_above 3
def g_settled : En → Out Fl := (sqS (sAs 2 evNewK) (sqS (sFor (itSeq (evCall Cm.d_all_needed [(.var 0), (.val (evTup [(evVar 1)]))])) (tgN 3) (sSet 2 (evVar 3) (evCall Cm.d_number_above [(.val (evLc (itSeq (evOp [(.var 0), (.var 3)] opIxA)) (tgN 4) evYes (evOp [(.var 2), (.var 4)] opIxA) [4]))])) [3]) (sRet (evMove 2))))
def d_settled : Den := fnRes g_settled 3
def g_numbers_of : En → Out Fl := (sqS (sDrop (evCall Cm.d_look_tree [(.var 0), (.var 1)])) (sRet (evSortIt (evCall Cm.d_settled [(.var 0), (.var 1)]))))
def d_numbers_of : Den := fnRes g_numbers_of 0
end Cm

set_option maxHeartbeats 2000000
namespace Fw
open PySem PySem.Spec PyProof.Rows L2
section
variable {S : Gs} {H Hs : Hp}
theorem RpL.split : ∀ {ds es : List D} {vs ws : List V} {G : List Addr}, RpL S H Hs (ds ++ es) (vs ++ ws) G → ds.length = vs.length → ∃ G1 G2, G = G1 ++ G2 ∧ RpL S H Hs ds vs G1 ∧ RpL S H Hs es ws G2
  | [], es, [], ws, G, h, _ => ⟨[], G, rfl, .nil, h⟩
  | [], _, _ :: _, _, _, _, e => by simp at e
  | _ :: _, _, [], _, _, _, e => by simp at e
  | d :: ds, es, v :: vs, ws, G, h, e => by
    rw [List.cons_append, List.cons_append] at h
    cases h with
    | cons h r =>
      obtain ⟨G1, G2, rfl, r1, r2⟩ := RpL.split r (by simpa using e)
      exact ⟨_ ++ G1, G2, (List.append_assoc _ _ _).symm, .cons h r1, r2⟩
end
section
variable {B : Bs} {T ts : Tm} {ρ : En} {σ : L2.St} {H H' : Hp} {F : List Addr} {d : D} {v : V}
theorem R.put {i : Nat} (h : R B (T ++ [(d, v)] ++ ts) ρ σ H F) (ei : ρ.vs[i]? = some .no) (ev : B.loc σ i = some (some v)) : R B (T ++ ts) { ρ with vs := ρ.vs.set i (mkSv d) } σ H F := by
  have h2 := h.putBack ei ev
  unfold mkSv
  split
  · rename_i hs
    obtain ⟨fp, p⟩ := h2.pt
    refine { h2 with len := by simpa using h2.len, pt := ⟨fp, { p with sl := fun j s q => ?_ }⟩ }
    rcases getElem?_set' q with ⟨rfl, rfl⟩ | ⟨ne, q⟩
    · have hi : i < ρ.vs.length := by
        have := (List.getElem?_eq_some_iff.mp q).1
        simpa using this
      obtain ⟨v', ev', r⟩ := (show RpV _ _ _ (.ow d) _ _ from p.sl i (.ow d) (by simp [hi]))
      have e := r.shr hs
      rw [e] at r
      exact ⟨v', ev', r⟩
    · exact p.sl j s (by show (ρ.vs.set i (.ow d))[j]? = some s; rw [List.getElem?_set_ne ne]; exact q)
  · exact h2
end
end Fw

set_option maxHeartbeats 2000000
namespace Fw
open PySem PySem.Spec PyProof.Rows L2
inductive LRes where
  | ok (d : D) (ls : List D) (st : RSt)
  | ex (x : Exc) (ls : List D) (st : RSt)
  | no
section
variable (S : Gs) (H Hs : Hp)
inductive RelA : List Sv → List V → Prop
  | nil : RelA [] []
  | ln {as : List Sv} {vs : List V} (a : Addr) (r : RelA as vs) : RelA (.no :: as) (.ref a :: vs)
  | sh {d : D} {v : V} {as : List Sv} {vs : List V} (h : Rp S H Hs d v []) (r : RelA as vs) : RelA (.sh d :: as) (v :: vs)
end
section
variable {S : Gs} {H Hs : Hp}
theorem RelA.length {as : List Sv} {vs : List V} (h : RelA S H Hs as vs) : as.length = vs.length := by
  induction h with
  | nil => rfl
  | ln a r ih => simp [ih]
  | sh h r ih => simp [ih]
theorem RelA.mono {H' Hs' : Hp} {as : List Sv} {vs : List V} (h : RelA S H Hs as vs) (m : ∀ a o, Hs a = some o → Hs' a = some o) : RelA S H' Hs' as vs := by
  induction h with
  | nil => exact .nil
  | ln a r ih => exact .ln a ih
  | sh h r ih => exact .sh (h.mono (fun _ z => nomatch z) m) ih
end
end Fw

set_option maxHeartbeats 2000000
namespace Fw
open PySem PySem.Spec PyProof.Rows L2
section
variable {P : Program} {w : World} {K : PySem.W.Frag} {mg : Str → Option Value} {base : Heap}
end
section
variable {B : Bs} {T ts : Tm} {ρ : En} {σ : L2.St} {H : Hp} {F : List Addr} {ps : List Opd} {ds : List D} {vs : List V}
end
end Fw

set_option maxHeartbeats 2000000
namespace Fw
open PySem PySem.Spec PyProof.Rows L2
section
variable {S : Gs} {H : Hp}
end
section
variable {B : Bs} {T ts : Tm} {ρ : En} {σ : L2.St} {H : Hp} {F : List Addr} {ps : List Opd} {ds : List D} {vs : List V} {ls : List D}
end
section
variable {X : Cx} {B : Bs} {T ts : Tm} {ρ : En} {σ : L2.St} {H : Hp} {F : List Addr} {ps : List Opd} {ds : List D} {vs : List V}
section
variable {CX : CXT} {k : Nat} {f C : Addr} {fd : FuncData} {pn : List Str} {sp : Sp} {E : L2.St → XK} {m : Str} {pos apos : Pos} {e o : Expr} {es : List Expr} {ta : TE} {t : TA}
end
inductive NoAs (K : PySem.W.Frag) (C : Addr) : List Str → Prop
  | nil : NoAs K C []
  | cons {f : Str} {fs : List Str} (h : NoAttr K C f) (r : NoAs K C fs) : NoAs K C (f :: fs)
theorem NoAs.get {K : PySem.W.Frag} {C : Addr} {fs : List Str} (h : NoAs K C fs) : ∀ (i : Nat) {f : Str}, fs[i]? = some f → NoAttr K C f := by
  induction h with
  | nil => intro i f e; simp at e
  | cons h r ih =>
    intro i f e
    cases i with
    | zero => simp at e; subst e; exact h
    | succ i => exact ih i (by simpa using e)
end
end Fw

set_option maxHeartbeats 2000000
namespace Fw
open PySem PySem.Spec PyProof.Rows L2
section
variable {X : Cx} {B : Bs} {T ts : Tm} {ρ : En} {σ : L2.St} {H : Hp} {F : List Addr} {ps : List Opd} {ds : List D} {vs : List V}
end
end Fw

set_option maxHeartbeats 2000000
namespace Fw
open PySem PySem.Spec PyProof.Rows L2
section
variable {X : Cx} {B : Bs} {T ts : Tm} {ρ : En} {σ : L2.St} {H : Hp} {F : List Addr} {d : D} {v : V} {rest : List Stmt} {g : En → Out Fl} {fe : En → Out D}
end
section
variable {P : Program} {w : World} {K : PySem.W.Frag} {mg : Str → Option Value} {base : Heap}
end
section
variable {X : Cx} {B : Bs} {T ts : Tm} {ρ : En} {σ : L2.St} {H : Hp} {F : List Addr} {ps : List Opd}
end
end Fw

set_option maxHeartbeats 2000000
namespace Fw
open PySem PySem.Spec PyProof.Rows L2
section
variable {X : Cx} {B : Bs} {T ts : Tm} {ρ : En} {σ : L2.St} {H : Hp} {F : List Addr}
end
end Fw

namespace Fw
open PySem L2
end Fw

set_option maxHeartbeats 2000000
namespace Fw
open PySem PySem.Spec PyProof.Rows L2
section
variable {X : Cx} {B : Bs} {ps : List Opd} {f : En → Out D}
end
end Fw

set_option maxHeartbeats 2000000
namespace Fw
open PySem PySem.Spec PyProof.Rows L2
section
variable {X : Cx} {B : Bs} {T T' : Tm} {ρ : En} {σ : L2.St} {H H' : Hp} {F : List Addr} {e : Expr} {pos : Pos} {fe : En → Out D}
def CstE (B : Bs) (ta : TE) (d : D) : Prop := ∀ {T : Tm} {ρ : En} {σ : L2.St} {H : Hp} {F : List Addr} {Q : VK}, R B T ρ σ H F → (∀ v H', (∀ b u, H b = some u → H' b = some u) → R B (T ++ [(d, v)]) ρ σ H' F → Q v H') → ta σ H Q
theorem CstE.int {k : Int} : CstE B (tC (.int k)) (.int k) := fun r q => q _ _ (fun _ _ z => z) (r.push (.int k))
theorem CstE.str {k : Str} : CstE B (tC (.str k)) (.str k) := fun r q => q _ _ (fun _ _ z => z) (r.push (.str k))
end
theorem opIxA_own {xs : List D} {i : Int} {d : D} (e : atI xs i = some d) (h : shr d = true) : opIxA [.tup xs, .int i] = some d := by
  show opIx [.tup xs, .int i] = _
  by_cases c : shrL xs = true
  · simp [opIx, c, e]
  · simp [opIx, seqOf, c, e, h]
@[simp] theorem opIxA_o0 {a : D} {xs : List D} (h : shr a = true) : opIxA [.tup (a :: xs), .int 0] = some a := opIxA_own (by simp) h
@[simp] theorem opIxA_o1 {a b : D} {xs : List D} (h : shr b = true) : opIxA [.tup (a :: b :: xs), .int 1] = some b := opIxA_own (by simp) h
@[simp] theorem opIxA_o2 {a b c : D} {xs : List D} (h : shr c = true) : opIxA [.tup (a :: b :: c :: xs), .int 2] = some c := opIxA_own (by simp) h
end Fw

set_option maxHeartbeats 4000000
namespace Fw
open PySem PySem.Spec PyProof.Rows L2
end Fw

namespace Fw
open PySem PySem.Spec PyProof.Rows L2
section
variable {X : Cx} {B : Bs} {T ts : Tm} {ρ : En} {σ : L2.St} {H : Hp} {F : List Addr} {d : D}
end
end Fw

namespace Fw
open PySem PySem.Spec PyProof.Rows L2
section
variable {X : Cx} {B : Bs} {T ts : Tm} {ρ : En} {σ : L2.St} {H : Hp} {F : List Addr} {ds : List D} {vs : List V} {Q : VK} {d : D} {e : Expr} {f fe fk : En → Out D} {pos : Pos}
theorem RpL.ins {S : Gs} {H Hs : Hp} {d : D} {v : V} {G : List Addr} (h : Rp S H Hs d v G) (ndG : G.Nodup) : ∀ {ds : List D} {vs : List V} {F : List Addr} (j : Nat), RpL S H Hs ds vs F → F.Nodup → (∀ x, x ∈ F → x ∉ G) →
    ∃ F', RpL S H Hs (ds.take j ++ [d] ++ ds.drop j) (vs.take j ++ [v] ++ vs.drop j) F' ∧ (∀ x ∈ F', x ∈ F ∨ x ∈ G) ∧ F'.Nodup
  | [], [], F, j, r, nd, _ => by
    cases r
    simp only [List.take_nil, List.drop_nil, List.append_nil, List.nil_append]
    exact ⟨G ++ [], .cons h .nil, fun x hx => .inr (by simpa using hx), by simpa using ndG⟩
  | [], _ :: _, _, _, r, _, _ => nomatch r
  | _ :: _, [], _, _, r, _, _ => nomatch r
  | d0 :: ds, v0 :: vs, F, 0, r, nd, dj => ⟨G ++ F, .cons h r, fun x hx => (List.mem_append.mp hx).elim .inr .inl, List.nodup_append.mpr ⟨ndG, nd, fun x hx y hy e => dj y hy (e ▸ hx)⟩⟩
  | _, _, _, j + 1, .cons (F := F1) (G := F2) q r, nd, dj => by
    obtain ⟨n1, n2, n3⟩ := List.nodup_append.mp nd
    obtain ⟨F', r', sub, nd'⟩ := RpL.ins h ndG j r n2 fun x hx => dj x (List.mem_append_right _ hx)
    refine ⟨F1 ++ F', .cons q r', fun x hx => ?_, List.nodup_append.mpr ⟨n1, nd', fun x hx y hy e => ?_⟩⟩
    · rcases List.mem_append.mp hx with z | z
      · exact .inl (List.mem_append_left _ z)
      · exact (sub x z).imp (fun z => List.mem_append_right _ z) id
    · subst e
      rcases sub x hy with z | z
      · exact n3 x hx x z rfl
      · exact dj x (List.mem_append_left _ hx) z
end
end Fw

namespace Fw
open PySem PySem.Spec PyProof.Rows L2
section
variable {X : Cx} {B : Bs} {T ts : Tm} {ρ : En} {σ : L2.St} {H : Hp} {F : List Addr} {ds : List D} {vs : List V} {Q : VK} {d : D} {e : Expr} {f fe fk : En → Out D} {pos : Pos}
end
end Fw

namespace Fw
open PySem PySem.Spec PyProof.Rows L2
section
variable {X : Cx} {B : Bs} {T ts : Tm} {ρ : En} {σ : L2.St} {H : Hp} {F : List Addr} {tg a b c : Expr} {pa pb pc : Opd} {p pos : Pos}
end
end Fw

namespace Fw
open PySem PySem.Spec PyProof.Rows L2
section
variable {X : Cx} {B : Bs} {T ts : Tm} {ρ : En} {σ : L2.St} {H : Hp} {F : List Addr} {ds : List D} {vs : List V} {Q : VK} {d : D} {e : Expr} {f fe fk : En → Out D} {pos : Pos}
end
end Fw

namespace Fw
open PySem PySem.Spec PyProof.Rows L2
def mergeT (kvs : List (List Key × V)) (more : List (List Key × V)) : List (List Key × V) := more.foldl (fun acc kv => putK acc kv.1 kv.2) kvs
section
variable {X : Cx}
theorem KT.merge {H : Hp} : ∀ {kvs : List (List Key × V)} {prs : List (List Key × Addr × Value)} {acc : List (List Key × V)} {xs : List (List Key × Addr × Value)}, KT H kvs prs → KT H acc xs → KT H (mergeT acc kvs) (storedAllH xs prs)
  | _, _, acc, xs, .nil, r => r
  | _, _, acc, xs, .cons (a := p) (b := q) h t, r => by
    obtain ⟨h1, h2, h3⟩ := h
    have := KT.merge t (r.put p.1 (b := q.2.1) h2 h3)
    rw [h1] at this
    unfold mergeT storedAllH at this ⊢
    rw [List.foldl_cons, List.foldl_cons, h1]
    exact this
end
section
variable {X : Cx} {B : Bs} {T ts : Tm} {ρ : En} {σ : L2.St} {H : Hp} {F : List Addr} {d : D}
end
section
variable {α : Type}
def kT (k : List Int) : List Key := k.map Sum.inl
def dT (f : α → D) (o : Bool) (m : List (List Int × α)) : D := .dt o (m.map fun p => kT p.1) (m.map fun p => f p.2)
end
end Fw

namespace Fw
open PySem PySem.Spec PyProof.Rows L2
section
variable {X : Cx} {B : Bs} {T ts : Tm} {ρ : En} {σ : L2.St} {H : Hp} {F : List Addr} {ds : List D} {vs : List V} {Q : VK} {d : D} {e a o : Expr} {f fe fk : En → Out D} {pos p : Pos}
end
end Fw

namespace Fw
open PySem PySem.Spec PyProof.Rows L2
section
variable {X : Cx} {B : Bs} {T ts : Tm} {ρ : En} {σ : L2.St} {H : Hp} {F : List Addr} {d : D}
end
end Fw

namespace Fw
open PySem PySem.Spec PyProof.Rows L2
section
variable {X : Cx}
end
section
variable {B : Bs} {T ts : Tm} {ρ : En} {σ : L2.St} {H : Hp} {F : List Addr}
end
end Fw

namespace Fw
open PySem PySem.Spec PyProof.Rows L2
section
variable {X : Cx} {B : Bs} {T ts : Tm} {ρ : En} {σ : L2.St} {H : Hp} {F : List Addr} {ks : List Key} {xs ds : List D}
structure PureV (X : Cx) (B : Bs) (val : En → Out D) (tv : TE) : Prop where
  same : ∀ {ρ ρ' : En} {y : D}, val ρ = .ok y ρ' → ρ' = ρ
  run : ∀ {T : Tm} {ρ : En} {σ : L2.St} {H : Hp} {F : List Addr} {Q : VK} {y : D}, R B T ρ σ H F → val ρ = .ok y ρ → (∀ v, R B (T ++ [(y, v)]) ρ σ H F → Q v H) → tv σ H Q
end
end Fw

namespace Fw
open PySem PySem.Spec PyProof.Rows L2
section
variable {X : Cx} {B : Bs} {T ts : Tm} {ρ : En} {σ : L2.St} {H : Hp} {F : List Addr} {ds : List D} {vs : List V} {Q : VK} {d : D} {e a o : Expr} {f fe fk : En → Out D} {pos p : Pos}
end
abbrev dL (m : List (Int × List Int)) : D := dI (fun xs => .lst true (isD xs)) true m
end Fw

namespace Fw
open PySem PySem.Spec PyProof.Rows L2
section
variable {X : Cx} {B : Bs} {T ts : Tm} {ρ : En} {σ : L2.St} {H : Hp} {F : List Addr} {d : D} {e f o a : Expr} {fk : En → Out D}
end
@[simp] theorem shr_dt (o : Bool) (ks : List (List Key)) (xs : List D) : shr (.dt o ks xs) = (!o && shrL xs) := by rw [shr]
@[simp] theorem frz_dt (o : Bool) (ks : List (List Key)) (xs : List D) : frz (.dt o ks xs) = .dt false ks (frzL xs) := by rw [frz]
@[simp] theorem fz_dt0 {ks : List (List Key)} {xs : List D} (h : shrL xs = true) : fz (.dt false ks xs) = .dt false ks xs := by
  unfold fz; rw [if_pos (by rw [shr_dt]; simp [h])]
@[simp] theorem fz_dt1 {ks : List (List Key)} {xs : List D} : fz (.dt true ks xs) = .dt false ks (frzL xs) := by
  unfold fz; rw [if_neg (by rw [shr_dt]; simp), frz_dt]
section
variable {α : Type}
def keysTA (m : List (List Int × α)) : List (List Int) := m.map (·.1)
end
end Fw

namespace Fw
open PySem PySem.Spec PyProof.Rows L2
section
variable {prog : Program} {w : World} {A : Around} {E : Value → Shared → Prop} {s : Shared}
theorem unpackItems_list {l : Addr} {items : Array Value} {Q : List Value → Shared → Prop} (hh : A.handled = none) (hl : s.heap.IsList l items)
    (hQ : ∀ h', Heap.ExtBut s.heap.objs.size s.heap h' → Q items.toList { s with heap := h' }) : wpAny (model prog w) A (unpackItems (.ref l) items.size none) Q E s := by
  have hlt : l ≠ s.heap.objs.size := by obtain ⟨o, ho, _⟩ := hl; exact Nat.ne_of_lt (Heap.lt_size ho)
  unfold unpackItems
  refine wpAny_bind ?_
  · unfold notIterableAtAll
    refine wpAny_bind (wpAny_specialOf hl.typeIs slot_list_iter.lookup ?_)
    refine wpAny_pure ?_
    simp only [Bool.false_eq_true, if_false]
    refine wpAny_bind (wpAny_holding (wpAny_pyIter_list hl ?_))
    refine wpAny_bind (wpAny_holding (PySem.W.kun_draw hlt items.size 0 _ _ ⟨_, Heap.get?_push_size _ rfl, rfl, rfl⟩ (hl.push _) (by omega) fun h₁ hit₁ hs₁ => ?_))
    have hall : List.take items.size (List.drop 0 items.toList) = items.toList := by
      rw [List.drop_zero]; exact List.take_of_length_le (by simp)
    rw [hall]
    rw [if_neg (by simp)]
    have hl₁ : h₁.IsList l items := (hl.push _).extBut hs₁.extBut hlt
    refine wpAny_bind (wpAny_holding (wpAny_pyNext_list_end hh hit₁ hl₁ (by simp) fun h₂ he₂ => ?_))
    simp only [Option.isSome_none, Bool.false_eq_true, if_false]
    refine wpAny_pure (hQ h₂ fun b o hb e => he₂ b o hb (hs₁.extBut b o hb (Heap.get?_push_of_some _ e)))
theorem assign_Tuple_list {env : Env} {elts : List Expr} {x1} {pos : Pos} {l : Addr} {items : Array Value} {Q : Unit → Shared → Prop} (hh : A.handled = none) (hl : s.heap.IsList l items)
    (hn : (assignEach elts env).length = items.size) (hstar : (assignEach elts env).findIdx? (·.1) = none)
    (h : ∀ h', Heap.ExtBut s.heap.objs.size s.heap h' → wpAny (model prog w) A (assignInOrder ((assignEach elts env).map (·.2)) items.toList) Q E { s with heap := h' }) :
    wpAny (model prog w) A (assign (.Tuple elts x1 pos) env (.ref l)) Q E s := by
  rw [assign_Tuple]
  refine wpAny_bind (wpAny_standAt ?_)
  unfold unpack
  rw [hn, hstar]
  exact wpAny_bind (wpAny_holding (unpackItems_list hh hl h))
end
section
variable {X : Cx} {pos : Pos}
def gLst (K : PySem.W.Frag) (n : Nat) (t : TGs) : TG := fun v σ H Q => ∃ a xs, v = .ref a ∧ SqL K H a xs ∧ xs.length = n ∧ t xs σ H Q
theorem pg_lst {es : List Expr} {k : Nat} {t : TGs} {n : Nat} (hc : X.calm = true) (h : PGs X es t)
    (hn : (assignEach es X.env).length = n := by rfl) (hst : (assignEach es X.env).findIdx? (·.1) = none := by rfl) : PG X (.Tuple es k pos) (gLst X.K n t) := by
  refine ⟨fun pins s σ H v u Q I r hw => ?_⟩
  obtain ⟨a, xs, e1, hq, hl, hw⟩ := hw
  subst e1
  cases r
  obtain ⟨its, rv, ht, hz⟩ := I.list hq
  refine assign_Tuple_list (I.ok.hd hc) ht.isList (by simp [hn, ← hl, rv.length]) hst fun h' hx => ?_
  have I1 : Inv X pins σ H { s with heap := h' } := I.kept (t' := s.toks) fun b o e => hx b o (Nat.ne_of_lt (Heap.lt_size e)) e
  exact h.run pins _ σ H xs _ Q I1 (by simpa using rv) hw
end
def tgL (is : List Nat) : D → En → Option En := fun d ρ => match fz d with
  | .lst false ds => (setsh ρ.vs is ds).map fun vs => { ρ with vs := vs }
  | _ => none
section
variable {X : Cx} {B : Bs} {pos : Pos}
theorem eg_lst {es : List Expr} {is : List Nat} {k : Nat} (hN : X.N.Nodup) (hc : X.calm = true) (h : EG X es is) (hl : es.length = is.length := by rfl) (hn : (assignEach es X.env).length = es.length := by rfl) (hst : (assignEach es X.env).findIdx? (·.1) = none := by rfl) (hme : B.free is = true := by rfl) : PG X (.Tuple es k pos) (cG B (tgL is)) :=
  (pg_lst hc (h.run hN) hn hst).imp fun v σ H Q ⟨T, ρ, F, d, ρ', r, e, q⟩ => by
    obtain ⟨F', r1, rd⟩ := freezeTmp r
    unfold tgL at e
    split at e
    · rename_i ds ed
      rw [ed] at rd
      cases rd with
      | @lstS a vs _ h rl =>
        cases e1 : setsh ρ.vs is ds with
        | none => rw [e1] at e; cases e
        | some svs =>
          rw [e1] at e; cases e
          refine ⟨a, vs, rfl, SqL.of (hid_some h).2, ?_, names_run hme r1 rl e1 q⟩
          rw [← rl.length]
          have : ∀ (is : List Nat) (vs : List Sv) (ds : List D) (svs : List Sv), setsh vs is ds = some svs → ds.length = is.length := by
            intro is
            induction is with
            | nil => intro vs ds svs e; cases ds with
              | nil => rfl
              | cons d ds => cases e
            | cons i is ih => intro vs ds svs e; cases ds with
              | nil => cases e
              | cons d ds => simp [ih _ _ _ e]
          rw [this _ _ _ _ e1, hl]
    · cases e
end
@[simp] theorem tgL_lst (is : List Nat) (vs : List Sv) (st : RSt) (o : Bool) (ds : List D) (h : shrL ds = true) : tgL is (.lst o ds) ⟨vs, st⟩ = (setsh vs is ds).map fun vs => ⟨vs, st⟩ := by
  have hf : fz (.lst o ds) = .lst false ds := by
    have h2 := frz_shr (d := .lst false ds) (by simpa using h)
    have h3 : frz (.lst o ds) = .lst false ds := by
      rw [frz] at h2 ⊢; exact h2
    cases o with
    | true => unfold fz; rw [if_neg (by simp)]; exact h3
    | false => unfold fz; rw [if_pos (by simpa using h)]
  unfold tgL
  rw [hf]
end Fw

namespace Cm
open PySem Fw L2
end Cm

namespace Cm
open PySem Fw L2
end Cm

set_option maxHeartbeats 2000000
namespace Fw
open PySem PySem.Spec PyProof.Rows L2
section
variable {X : Cx}
end
section
variable {B : Bs}
end
end Fw

namespace Cm
open PySem Fw L2
end Cm

namespace Cm
open PySem Fw L2
def g_does : En → Out Fl := (sqS (sAs 4 (evC .non)) (sqS (sTry tx_Barred (sAs 4 (evIxT (evCall Cm.d_played [(.var 0), (.var 1), (.var 2)]) (evOp [(.val (evC (.int 1)))] opNeg))) (sAs 4 (evC .non))) (sRet (evAnd (evOp [(.var 4), (.val (evC .non))] opNoN) (evOp [(.val (evLc (itSeq (evVar 3)) (tgN 5) evYes (evOp [(.var 5), (.var 4)] (opIn false)) [5]))] opAll)))))
def d_does : Den := fnRes g_does 2
end Cm

namespace Cm
open PySem Fw L2
end Cm

namespace Fw
open PySem PySem.Spec PyProof.Rows L2
section
variable {X : Cx} {B : Bs} {CX : CXT} {k : Nat} {f : Addr} {fd : FuncData} {ps : List Str} {sp : Sp} {x : Str} {p pos : Pos} {E : L2.St → XK} {den : Den}
end
end Fw

namespace Cm
open PySem Fw L2
end Cm

namespace Fw
open PySem PySem.Spec PyProof.Rows L2
section
variable {X : Cx}
def rTupZ (K : PySem.W.Frag) : List V → Hp → VK → Prop := fun xs H Q => ∃ (p : Addr) (vs : List V), xs = [.ref p] ∧ SqL K H p vs ∧ ∀ (q : Addr) (ob : Obj), H q = none → ob.dict = none → Q (.ref q) (upd H q (.frz ob (.tup vs)))
theorem call_tupZ : CallR X (.type "tuple") (rTupZ X.K) := by
  intro pins s σ H xs us Q I r ⟨p, vs, ex, hs, q⟩
  subst ex
  obtain ⟨u, eu, rx⟩ := vals1 r
  subst eu
  cases rx
  obtain ⟨its, rv, pl, hz⟩ := I.list hs
  refine call_tuple_list pl.isList (fun h' hk => ?_) (by rw [List.size_toArray, ← rv.length]; exact hz)
  have I1 : Inv X pins σ H { s with heap := h' } := I.kept (t' := s.toks) hk
  let ob : Obj := { cls := .type "tuple", data := .seq its.toArray }
  have I2 : Inv X pins σ (upd H h'.objs.size (.frz ob (.tup vs))) { s with heap := h'.push ob } :=
    I1.laid (t' := s.toks) (fun b o e => Heap.get?_push_of_some _ e) (Nat.le_refl _) (show ObjOk X.prog X.w _ _ _ (.frz ob (.tup vs)) from ⟨Heap.get?_push_size _ rfl, hz, its, rv, IsTup.new _ _⟩)
  exact ⟨.ref h'.objs.size, _, I2, rfl, q _ ob (I1.hok.fresh (Nat.le_refl _)) rfl⟩
theorem pairsZ_of {pins : List (Addr × Obj)} {σ : L2.St} {H : Hp} {s : Shared} (I : Inv X pins σ H s) : ∀ {ps : List Addr} {kvs : List (Key × V)}, Paired (fun p kv => SqT X.K H p [kV kv.1, kv.2]) ps kvs →
    ∃ (prs : List (Key × Value)) (psv : List (Value × Value)), KV kvs prs ∧ prs.length = ps.length ∧ psv.length = ps.length ∧
      ∀ (j : Nat) (k v : Value), psv[j]? = some (k, v) → ∃ (b : Addr) (key : Key), ps[j]? = some b ∧ IsTup s.heap b #[k, v] ∧ prs[j]? = some (key, v) ∧ keyIs key k = true
  | _, _, .nil => ⟨[], [], .nil, rfl, rfl, fun j k v e => by simp at e⟩
  | _, _, .cons (a := p) (b := kv) h t => by
    obtain ⟨prs, psv, r, hl, hl2, hp⟩ := pairsZ_of I t
    obtain ⟨its, rv, ht, _⟩ := I.tuple h
    obtain ⟨u, y, ei, ru, ry⟩ := vals2 rv
    subst ei
    refine ⟨(kv.1, y) :: prs, (u, y) :: psv, .cons ⟨rfl, ry⟩ r, by rw [List.length_cons, List.length_cons, hl], by rw [List.length_cons, List.length_cons, hl2], fun j k v e => ?_⟩
    cases j with
    | zero =>
      have e' : (u, y) = (k, v) := Option.some.inj e
      cases e'
      exact ⟨p, kv.1, rfl, ht, rfl, kV_is (P := X.prog) (w := X.w) ru⟩
    | succ j =>
      obtain ⟨b, key, e1, e2, e3, e4⟩ := hp j k v (by simpa using e)
      exact ⟨b, key, by simpa using e1, e2, by simpa using e3, e4⟩
def rDictZ (K : PySem.W.Frag) : List V → Hp → VK → Prop := fun xs H Q => ∃ (a : Addr) (ob : Obj) (ps : List Addr) (kvs : List (Key × V)), xs = [.ref a] ∧ H a = some (.frz ob (.tup (ps.map V.ref))) ∧ ob.dict = none ∧ Paired (fun p kv => SqT K H p [kV kv.1, kv.2]) ps kvs ∧
    ∀ p, H p = none → Q (.ref p) (upd H p (.dK (mergeK [] kvs)))
theorem call_dictZ (hcalm : X.calm = true) : CallR X (.type "dict") (rDictZ X.K) := by
  intro pins s σ H xs us Q I r ⟨a, ob, ps, kvs, ex, hq, hd, hp, q⟩
  subst ex
  obtain ⟨u, eu, rx⟩ := vals1 r
  subst eu
  cases rx
  obtain ⟨ho, hz, its, rv, ob', ho', hc, n, hdat⟩ := I.hok a _ hq
  rw [ho] at ho'; cases ho'
  have ei := refs_at rv
  subst ei
  rw [List.length_map] at hz
  obtain ⟨prs, psv, rel, hl, hl2, hpr⟩ := pairsZ_of I hp
  let Ts : Nat → Addr := fun j => ps.getD j 0
  have okP : PlainSeq "tuple" s.heap a (ps.map Value.ref).toArray ∧ PairItems s.heap (ps.map Value.ref).toArray Ts psv := by
    refine ⟨⟨ob, n, ho, hc, hd, hdat⟩, by simp [hl2], fun j k v hj => ?_⟩
    obtain ⟨b, key, e1, e2, _, _⟩ := hpr j k v hj
    have hT : Ts j = b := by
      show ps.getD j 0 = b
      rw [List.getD_eq_getElem?_getD, e1]
      rfl
    rw [hT]
    exact ⟨by simp [e1], .inl e2⟩
  refine PySem.call_dict_pairs (prog := X.prog) (w := X.w) (knd := mixKind X.prog X.w) (kvs := prs) (PairArg.tuple a (ps.map Value.ref).toArray Ts psv) (I.ok.hd hcalm) okP ⟨by rw [hl2, hl], fun i key v hi => ?_⟩ (by rw [hl2]; exact hz) fun h' tk hd' hk => ?_
  · obtain ⟨b, k, _, _, e3, e4⟩ := hpr i key v hi
    exact ⟨k, e3, e4⟩
  · have hm : (s.heap.objs.size == sysModules) = false := beq_eq_false_iff_ne.mpr (Nat.ne_of_gt I.big)
    have hlen : (mergeK [] kvs).length ≤ sizeLine := by
      refine Nat.le_trans (length_mergeK kvs []) ?_
      rw [List.length_nil, Nat.zero_add, rel.length, hl]
      exact hz
    exact ⟨.ref s.heap.objs.size, upd H s.heap.objs.size (.dK (mergeK [] kvs)), I.laid (t' := tk) (fun b u hb => hk b u (by simp) hb) (Nat.le_refl _) (show ObjOk X.prog X.w _ _ _ (.dK (mergeK [] kvs)) from ⟨hlen, hm, merged [] prs, KV.merge rel .nil, hd'⟩), rfl, q _ (I.hok.fresh (Nat.le_refl _))⟩
end
def opTupZ : List D → Option D
  | [.lst _ xs] => if shrL xs = true then some (.tz xs) else none
  | _ => none
def opDictZ : List D → Option D
  | [.tz xs] => if shrL xs = true then (pairsD xs).map fun ps => .dk true (mergeD ps [] []).1 (mergeD ps [] []).2 else none
  | _ => none
def opLenZ : List D → Option D
  | [.tz xs] => some (.int xs.length)
  | _ => none
def itSeqZ (f : En → Out D) : En → Out (List D) := fun ρ => (f ρ).bind fun d ρ' => match d with
  | .tz xs => if shrL xs = true then (if decide (xs.length ≤ sizeLine) = true then .ok xs ρ' else .no) else .no
  | _ => .no
section
variable {X : Cx} {B : Bs} {T ts : Tm} {ρ : En} {σ : L2.St} {H : Hp} {F : List Addr} {d : D}
theorem R.newTz {xs : List D} {vs : List V} {p : Addr} {ob : Obj} (h : R B T ρ σ H F) (r : RpL B.S H (hid (B.M ++ F) H) xs vs []) (hs : shrL xs = true) (hp : H p = none) (hd : ob.dict = none) : R B (T ++ [(.tz xs, .ref p)]) ρ σ (upd H p (.frz ob (.tup vs))) F := by
  have hl := r.length
  have := R.make (keep := false) (o := .frz ob (.tup vs)) (d := .tz xs) (h.pushL r) hp (by intro vs e; rcases e with e | e <;> cases e) fun e1 e2 r => by
    rw [if_neg (by simp)]
    rw [zip_fst hl, zip_snd hl] at r
    have := RpL.shr r hs
    subst this
    exact .tz (e2 rfl) hd r
  rw [if_neg (by simp)] at this
  exact this
theorem opTupZ_S {K : PySem.W.Frag} : OpS B (rTupZ K) opTupZ := by
  intro T ts ρ σ H F ps ds vs Q d h o e q
  unfold opTupZ at e
  split at e
  · rename_i o2 xs
    split at e
    · rename_i hx
      cases e
      obtain ⟨v1, G1, rfl, r1⟩ := o.one h
      obtain ⟨a, vs, G', rfl, ha, rl⟩ := seqR_lst r1
      have := RpL.shr rl hx
      subst this
      exact ⟨a, vs, rfl, SqL.of ha, fun p ob hp hd => q _ _ _ (h.drop.newTz rl hx hp hd)⟩
    · cases e
  · cases e
theorem tz_rp {v : V} {G : List Addr} {xs : List D} (r : RpB B H F (.tz xs) v G) : ∃ (a : Addr) (ob : Obj) (vs : List V), v = .ref a ∧ H a = some (.frz ob (.tup vs)) ∧ ob.dict = none ∧ RpL B.S H (hid (B.M ++ F) H) xs vs [] := by
  obtain ⟨r, _⟩ := r
  cases r with
  | tz h hd r => exact ⟨_, _, _, rfl, hid_sub _ _ h, hd, r⟩
theorem opDictZ_S {K : PySem.W.Frag} : OpS B (rDictZ K) opDictZ := by
  intro T ts ρ σ H F ps ds vs Q d h o e q
  unfold opDictZ at e
  split at e
  · rename_i xs
    split at e
    · rename_i hx
      obtain ⟨pp, e1, rfl⟩ := Option.map_eq_some_iff.mp e
      obtain ⟨v1, G1, rfl, r1⟩ := o.one h
      obtain ⟨a, ob, vs, rfl, ha, hd, rl⟩ := tz_rp r1
      obtain ⟨as, kvs, rfl, hp, hk, rk⟩ := pairsD_rp (K := K) hid_sub rl e1
      have mm := mergeD_rp (acc := []) (xs := []) hk rk List.nodup_nil .nil
      refine ⟨a, ob, as, kvs, rfl, ha, hd, hp, fun p np => ?_⟩
      exact q _ _ _ (h.drop.newK mm.1 mm.2 np)
    · cases e
  · cases e
theorem opLenZ_S {K : PySem.W.Frag} : OpS B (rLenA K) opLenZ := by
  intro T ts ρ σ H F ps ds vs Q d h o e q
  unfold opLenZ at e
  split at e
  · cases e
    obtain ⟨v1, G1, rfl, r1⟩ := o.one h
    obtain ⟨a, ob, vs, rfl, ha, hd, rl⟩ := tz_rp r1
    exact .inl ⟨a, vs, rfl, .inr (.inl (.inr ⟨_, ha⟩)), q _ _ _ (h.drop.push (by rw [rl.length]; exact .int _))⟩
  · cases e
theorem itok_tz {K : PySem.W.Frag} {a : Addr} {xs : List D} (hz : xs.length ≤ sizeLine) : ItOk B (Itt K a) xs [(.tz xs, .ref a)] := by
  refine ⟨hz, fun T T2 ρ σ H F r i => ?_⟩
  obtain ⟨G, rb⟩ := r.nth (n := 0) rfl
  obtain ⟨a', ob, vs, e, ha, hd, rl⟩ := tz_rp rb
  cases e
  have hs : SqT K H a vs := .inl (.inr ⟨_, ha⟩)
  refine ⟨fun hi => ⟨vs, hs, by rw [← rl.length]; exact hi⟩, fun d ed => ?_⟩
  obtain ⟨v, hv, rv⟩ := rl.get0 ed
  refine ⟨⟨vs, v, hs, hv⟩, fun x H' ⟨eH, hx⟩ => ?_⟩
  subst eH
  have ex := hx vs hs
  rw [hv] at ex; cases ex
  exact ⟨F, r.push rv⟩
variable {e tg : Expr} {f : En → Out D} {es : List Expr} {pos : Pos}
theorem ei_seqZ (h : PE X e (cE B f)) : PI X tg e (cI B (itSeqZ f)) := (pi_seq h).imp fun σ H Rr ⟨T, ρ, F, r, q⟩ => by
  refine ⟨T, ρ, F, r, Out.wp_mono (Out.wp_bind q) (fun d ρ' q v H' F' r' => ?_) fun _ _ z => z⟩
  split at q
  · split at q
    · split at q
      · rename_i xs hx hz
        obtain ⟨G, rb⟩ := top_rp r'
        obtain ⟨a, ob, vs, rfl, ha, hd, rl⟩ := tz_rp rb
        exact ⟨a, rfl, .inr ⟨⟨vs, .inl (.inr ⟨_, ha⟩)⟩, q _ H' F' [(.tz xs, .ref a)] r' (itok_tz (of_decide_eq_true hz))⟩⟩
      · exact q.elim
    · exact q.elim
  · exact q.elim
theorem pe_tupZ0 {x1} : PE X (.Tuple [] x1 pos) (fun _ H Q => ∀ (p : Addr) (ob : Obj), H p = none → ob.dict = none → Q (.ref p) (upd H p (.frz ob (.tup [])))) := by
  refine ⟨fun pins s σ H Q I hq => ?_⟩
  refine wpAny_Tuple_spliced (thn (pa_nil.run pos pins s σ H (fun xs H1 => xs = [] ∧ H1 = H) I ⟨rfl, rfl⟩) fun us s1 ⟨xs, H1, I1, r, ez, eH⟩ => ?_)
  subst ez; subst eH
  cases r
  refine ⟨by simp, ?_⟩
  have hf : H1 s1.heap.objs.size = none := I1.hok.fresh (Nat.le_refl _)
  let ob : Obj := { cls := .type "tuple", data := .seq #[] }
  refine ⟨.ref s1.heap.objs.size, upd H1 s1.heap.objs.size (.frz ob (.tup [])), I1.laid (t' := s1.toks) (fun b u e => Heap.get?_push_of_some _ e) (Nat.le_refl _) ?_, rfl, hq _ ob hf rfl⟩
  exact ⟨Heap.get?_push_size _ rfl, Nat.zero_le _, [], .nil, ⟨_, Heap.get?_push_size _ rfl, rfl, _, rfl⟩⟩
def evTupZ0 : En → Out D := fun ρ => .ok (.tz []) ρ
theorem ev_tupZ0 {x1} : PE X (.Tuple [] x1 pos) (cE B evTupZ0) := pe_tupZ0.imp fun σ H Q ⟨T, ρ, F, r, q⟩ p ob hp hd =>
  q _ _ _ (r.newTz (xs := []) .nil rfl hp hd)
end
end Fw

namespace Cm
open PySem Fw L2
def g_law_ins : En → Out Fl := (sqS (sAs 3 (evOp [(.val (evOp [(.var 1)] opLen))] opRgL1)) (sqS (sAs 4 (evLst [])) (sqS (sFor (itRg [(.val (evOp [(.var 2)] opLen))]) (tgN 5) (sIf (evTAnd (evTOp [(.val (evOp [(.var 2), (.var 5)] opIxA)), (.val (evTup []))] opEq) (evTAnd (evTOp [(.var 3), (.val (evLst []))] opNe) (evTOp [(.val (evCall takeD [(.var 0), (.val (evC (.int 4)))])), (.val (evC (.int 0)))] opGt))) (sMe1 moApp 4 (evTup [(evVar 5), (evPopAt 3 (evCall takeD [(.var 0), (.val (evOp [(.var 3)] opLen))]))])) nxS) [5]) (sRet (evOp [(.val (evLst [(evOp [(.var 4)] opTupZ), evTupZ0])), (.val (evOp [(.val (evOp [(.val (evCall takeD [(.var 0), (.val (evC (.int 8)))])), (.val (evC (.int 0)))] opEq))] opInt))] opIxA)))))
def d_law_ins : Den := fnRes g_law_ins 3
def g_numbers_behind : En → Out Fl := (sqS (sAs 3 (evOp [(.var 2)] opDictZ)) (sqS (sAs 4 (evLst [])) (sqS (sAs 5 (evOp [(.var 0)] opLen)) (sqS (sFor (itRg [(.val (evOp [(.var 1)] opLen))]) (tgN 6) (sIf (evTOp [(.var 6), (.var 3)] (opIn false)) (sMe1 moApp 4 (evOp [(.var 3), (.var 6)] opIxA)) (sqS (sMe1 moApp 4 (evVar 5)) (sAug 5 (fun i j => i + j) (evC (.int 1))))) [6]) (sRet (evMove 4))))))
def d_numbers_behind : Den := fnRes g_numbers_behind 4
def g_put_behind : En → Out Fl := (sqS (sAs 3 (evCall Cm.d_numbers_behind [(.var 0), (.var 1), (.var 2)])) (sqS (sAs 4 (evOp [(.var 2)] opDictZ)) (sqS (sAs 5 (evOp [(.var 0)] opList)) (sqS (sFor (itEnA (evVar 1)) (tgT [6, 7]) (sIf (evTOp [(.var 6), (.var 4)] (opIn true)) (sMe1 moApp 5 (evOp [(.val (evOp [(.val (evLc (itSeq (evVar 7)) (tgN 8) evYes (evOp [(.var 3), (.var 8)] opIxA) [8]))] opSort))] opTuple)) nxS) [6, 7]) (sRet (evOp [(.var 5)] opTuple))))))
def d_put_behind : Den := fnRes g_put_behind 6
def g_number_behind : En → Out Fl := (sRet (evIxT (evCall Cm.d_numbers_behind [(.var 0), (.var 1), (.var 2)]) (evVar 3)))
def d_number_behind : Den := fnRes g_number_behind 0
def g_plan_behind : En → Out Fl := (sqS (sAs 4 (evCall Cm.d_numbers_behind [(.var 0), (.var 1), (.var 2)])) (sqS (sAs 5 (evOp [(.var 2)] opDictZ)) (sqS (sAs 6 evNewK) (sqS (sAs 7 (evLst [])) (sqS (sFor (itSeq (evVar 3)) (tgT [8, 9]) (sqS (sAs 10 (evLst [(evTup [(evVar 8), (evOp [(.var 4), (.var 9)] opIxA)])])) (sqS (sIf (evTAnd (evTOp [(.var 8), (.val (evC (.str "do")))] opEq) (evTOp [(.var 9), (.var 5)] (opIn false))) (sAs 10 (evLc (itSeq (evCall Cm.d_plain_plan [(.var 0), (.val (evTup [(evOp [(.var 5), (.var 9)] opIxA)]))])) (tgN 11) (evTOp [(.val (evOp [(.var 11), (.val (evC (.int 1)))] opIxA)), (.var 6)] (opIn true)) (evVar 11) [11])) nxS) (sqS (sMe1 moExt 7 (evVar 10)) (sIf (evTOp [(.var 8), (.val (evC (.str "clear")))] opEq) (sDrop (evDPop 6 (evOp [(.var 4), (.var 9)] opIxA))) (sSet 6 (evOp [(.var 4), (.var 9)] opIxA) (evC (.bl true))))))) [8, 9, 10]) (sRet (evMove 7)))))))
def d_plan_behind : Den := fnRes g_plan_behind 8
def g_is_work_below : En → Out Fl := (sRet (evAnd (evOp [(.var 0)] (opIsi .int)) (evAnd (evNot (evOp [(.var 0)] (opIsi .bool))) (evChI (fun i j => decide (i ≤ j)) (fun i j => decide (i < j)) (evC (.int 0)) (evVar 0) (evVar 1)))))
def d_is_work_below : Den := fnRes g_is_work_below 0
def g_are_needs : En → Out Fl := (sqS (sIf (evTOr (evTNot (evT (evOp [(.var 0)] (opIsi .tuple)))) (evTNot (evT (evOp [(.val (evLc (itSeq (evVar 0)) (tgN 2) evYes (evCall Cm.d_is_work_below [(.var 2), (.var 1)]) [2]))] opAll)))) (sRet (evC (.bl false))) nxS) (sRet (evOp [(.val (evLc (itZip (evVar 0) (evSl (.var 0) (some (evC (.int 1))) none)) (tgT [3, 4]) evYes (evOp [(.var 3), (.var 4)] opLt) [3, 4]))] opAll)))
def d_are_needs : Den := fnRes g_are_needs 3
def g_is_net : En → Out Fl := (sqS (sIf (evTOr (evTNot (evT (evOp [(.var 0)] (opIsi .tuple)))) (evTOp [(.val (evOp [(.var 0)] opLen)), (.val (evC (.int 0)))] opEq)) (sRet (evC (.bl false))) nxS) (sRet (evOp [(.val (evLc (itEnA (evVar 0)) (tgT [1, 2]) evYes (evCall Cm.d_are_needs [(.var 2), (.var 1)]) [1, 2]))] opAll)))
def d_is_net : Den := fnRes g_is_net 2
def g_law_put_right : En → Out Fl := (sqS (sAs 3 (evCall Cm.d_put_behind [(.var 0), (.var 1), (.var 2)])) (sqS (sIf (evTOr (evTOp [(.val (evCall Cm.d_is_net [(.var 3)])), (.val (evC (.bl true)))] opIsNB) (evTOr (evTOp [(.val (evSl (.var 3) none (some (evOp [(.var 0)] opLen)))), (.var 0)] opNe) (evTOp [(.val (evOp [(.var 3)] opLen)), (.val (evOp [(.val (evOp [(.val (evOp [(.var 0)] opLen)), (.val (evOp [(.var 1)] opLen))] opAdd)), (.val (evOp [(.var 2)] opLenZ))] opSub))] opNe))) (sRet (evC (.bl false))) nxS) (sqS (sFor (itRg [(.val (evOp [(.var 1)] opLen))]) (tgN 4) (sqS (sAs 5 (evLc (itSeq (evCall Cm.d_all_needed [(.var 1), (.val (evTup [(evVar 4)]))])) (tgN 6) evYes (evCall Cm.d_number_behind [(.var 0), (.var 1), (.var 2), (.var 6)]) [6])) (sqS (sAs 7 (evCall Cm.d_all_needed [(.var 3), (.val (evTup [(evCall Cm.d_number_behind [(.var 0), (.var 1), (.var 2), (.var 4)])]))])) (sqS (sIf (evTNot (evT (evOp [(.val (evLc (itSeq (evVar 5)) (tgN 6) evYes (evOp [(.var 6), (.var 7)] (opIn false)) [6]))] opAll))) (sRet (evC (.bl false))) nxS) (sIf (evTNot (evT (evOp [(.val (evLc (itSeq (evVar 7)) (tgN 6) evYes (evOr (evOp [(.var 6), (.var 5)] (opIn false)) (evOp [(.var 6), (.val (evOp [(.var 0)] opLen))] opLt)) [6]))] opAll))) (sRet (evC (.bl false))) nxS)))) [4, 5, 7]) (sRet (evC (.bl true))))))
def d_law_put_right : Den := fnRes g_law_put_right 5
def g_most_of : En → Out Fl := (sRet (evOp [(.val (evLc (itSeq (evCall Cm.d_played [(.var 0), (.val (evOp [(.var 0)] opLen)), (.var 1)])) (tgN 2) evYes (evOp [(.var 2)] opLen) [2]))] opMaxL))
def d_most_of : Den := fnRes g_most_of 1
def g_rooms_behind : En → Out Fl := (sqS (sIf (evTOp [(.val (evOp [(.var 2)] opLenZ)), (.val (evC (.int 0)))] opEq) (sRet (evCall Cm.d_most_of [(.var 1), (.var 3)])) nxS) (sRet (evOp [(.val (evOp [(.val (evOp [(.val (evLc (itSeqZ (evVar 2)) (tgT [4, 5]) evYes (evCall Cm.d_most_of [(.var 0), (.val (evCall Cm.d_plain_plan [(.var 0), (.val (evTup [(evVar 5)]))]))]) [4, 5]))] opMaxL)), (.val (evCall Cm.d_most_of [(.var 1), (.var 3)]))] opAdd)), (.val (evC (.int 1)))] opSub)))
def d_rooms_behind : Den := fnRes g_rooms_behind 2
def g_law_plan_right : En → Out Fl := (sqS (sAs 4 (evCall Cm.d_plain_plan [(.var 1), (.val (evTup [(evVar 3)]))])) (sqS (sPar 5 6 (evCall Cm.d_put_behind [(.var 0), (.var 1), (.var 2)]) (evCall Cm.d_number_behind [(.var 0), (.var 1), (.var 2), (.var 3)])) (sqS (sAs 7 (evCall Cm.d_plan_behind [(.var 0), (.var 1), (.var 2), (.var 4)])) (sqS (sAs 8 (evCall Cm.d_rooms_behind [(.var 0), (.var 1), (.var 2), (.var 4)])) (sqS (sIf (evTOr (evTOp [(.val (evCall Cm.d_does [(.var 5), (.var 8), (.var 7), (.val (evTup [(evVar 6)]))])), (.val (evC (.bl true)))] opIsNB) (evTOp [(.val (evCall Cm.d_most_of [(.var 5), (.var 7)])), (.var 8)] opGt)) (sRet (evC (.bl false))) nxS) (sqS (sIf (evTOp [(.val (evIxT (evCall Cm.d_played [(.var 5), (.var 8), (.var 7)]) (evOp [(.val (evC (.int 1)))] opNeg))), (.val (evTup [(evVar 6)]))] opNe) (sRet (evC (.bl false))) nxS) (sqS (sAs 9 (evLc (itSeq (evVar 4)) (tgT [10, 11]) evYes (evTup [(evVar 10), (evCall Cm.d_number_behind [(.var 0), (.var 1), (.val evTupZ0), (.var 11)])]) [10, 11])) (sRet (evOp [(.val (evCall Cm.d_plan_behind [(.var 0), (.var 1), (.val evTupZ0), (.var 4)])), (.var 9)] opEq)))))))))
def d_law_plan_right : Den := fnRes g_law_plan_right 8
end Cm

namespace K69
open PySem Fw L2
def g_law : En → Out Fl := (sqS (sAsT (tgL [2, 3, 4]) (evLc (itRg [(.val (evC (.int 3)))]) (tgN 5) evYes (evCall Cm.d_law_net [(.var 1), (.val (evOp [(.val (evC (.int 1))), (.val (evCall takeD [(.var 1), (.val (evC (.int 6)))]))] opAdd))]) [5])) (sqS (sAs 6 (evCall Cm.d_law_ins [(.var 1), (.var 2), (.var 3)])) (sqS (sAs 7 (evCall Cm.d_put_behind [(.var 2), (.var 3), (.var 6)])) (sqS (sAs 8 (evCall Cm.d_law_ins [(.var 1), (.var 7), (.var 4)])) (sqS (sIf (evTOr (evTNot (evT (evCall Cm.d_law_put_right [(.var 2), (.var 3), (.var 6)]))) (evTNot (evT (evCall Cm.d_law_put_right [(.var 7), (.var 4), (.var 8)])))) (sRet (evC (.bl false))) nxS) (sqS (sFor (itRg [(.val (evC (.int 2)))]) (tgN 5) (sqS (sIf (evTNot (evT (evCall Cm.d_law_plan_right [(.var 2), (.var 3), (.var 6), (.val (evCall takeD [(.var 1), (.val (evOp [(.var 3)] opLen))]))]))) (sRet (evC (.bl false))) nxS) (sIf (evTNot (evT (evCall Cm.d_law_plan_right [(.var 7), (.var 4), (.var 8), (.val (evCall takeD [(.var 1), (.val (evOp [(.var 4)] opLen))]))]))) (sRet (evC (.bl false))) nxS)) [5]) (sRet (evC (.bl true)))))))))
end K69

namespace Cm
open PySem Fw L2
def needsOk (k : Int) (xs : List Int) : Prop := xs.Pairwise (· < ·) ∧ ∀ x ∈ xs, 0 ≤ x ∧ x < k
def netOk (N : List (List Int)) : Prop := ∀ (i : Nat) (xs : List Int), N[i]? = some xs → needsOk i xs
theorem some_needs_ok {k : Int} {st : RSt} {r : Nat} (h0 : 0 ≤ k) (h1 : k < 1000000) (g : Gd (r+9) st) : Rb (Cm.d_law_some_needs [.rs, .int k] st) fun d st' => ∃ xs, d = tI xs ∧ needsOk k xs ∧ Gd r st' := by
  rw [Cm.d_law_some_needs]; refine Rb.of ?_
  unfold Cm.g_law_some_needs
  obtain ⟨n, st1, e1, n0, n1, g1⟩ := take_gd (r := r + 8) (n := 5) g (by decide) (by decide)
  simp [e1]
  rw [itRg1 (by omega) (by omega)]
  simp
  refine ob_for (fun pre ρ => ∃ acc st', ρ = ⟨[.sh .rs, .sh (.int k), .ow (.lst true (isD acc)), .no, .no], st'⟩ ∧ acc.length ≤ pre.length ∧ (∀ x ∈ acc, 0 ≤ x ∧ x < k) ∧ Gd (r + 2 * (4 - pre.length)) st') ?_ ?_ ?_
  · exact ⟨[], st1, rfl, by simp, by simp, g1⟩
  · rintro pre x post _ hx ⟨acc, st2, rfl, ha, hb, g2⟩
    refine ⟨_, rfl, ?_⟩
    have hl := congrArg List.length hx
    simp at hl
    obtain ⟨m, st3, e3, m0, m1, g3⟩ := take_gd (r := r + 2 * (4 - (pre.length + 1)) + 1) (n := 4) (g2.mono (by omega)) (by decide) (by decide)
    simp [e3]
    rw [opFd_i (by decide) (by decide)]
    simp
    obtain ⟨far, hf, ef⟩ := atI_some (xs := [if k < 4 then k else 4, k]) (i := m / 3) (by omega) (by simp; omega)
    have ef' : atI [D.int (if 4 < k then 4 else k), D.int k] (m / 3) = some (.int far) := by
      have := congrArg (Option.map D.int) ef
      rw [← atI_map] at this
      simp at this
      rw [← this]
      congr 3
      split <;> split <;> omega
    rw [ef']
    simp
    by_cases hk : 0 < k
    · have hfar : 0 < far ∧ far ≤ k := by
        simp at hf
        rcases hf with rfl | rfl
        · split <;> omega
        · omega
      obtain ⟨y, st4, e4, y0, y1, g4⟩ := take_gd (r := r + 2 * (4 - (pre.length + 1))) (n := far) g3 (by omega) (by omega)
      simp [hk, e4]
      rw [moApp_i (by simp [sizeLine_eq]; omega)]
      simp
      refine ⟨acc ++ [k - 1 - y], st4, by simp, by simp; omega, ?_, g4.mono (by omega)⟩
      intro z hz
      rcases List.mem_append.mp hz with hz | hz
      · exact hb z hz
      · simp at hz; omega
    · simp [hk]
      exact ⟨acc, st3, by simp, by omega, hb, g3.mono (by omega)⟩
  · rintro _ ⟨acc, st2, rfl, ha, hb, g2⟩
    simp at ha
    simp
    rw [opSSet_i true (by omega)]
    simp
    exact ⟨sortU acc, rfl, ⟨sortU_sorted acc, fun x hx => hb x (sortU_mem.mp hx)⟩, g2.mono (by omega)⟩
theorem netOk_append {N : List (List Int)} {xs : List Int} (h : netOk N) (k : needsOk N.length xs) : netOk (N ++ [xs]) := by
  intro i ys e
  by_cases hi : i < N.length
  · rw [List.getElem?_append_left hi] at e
    exact h i ys e
  · rw [List.getElem?_append_right (by omega)] at e
    cases hj : i - N.length with
    | zero =>
      rw [hj] at e
      simp at e
      subst e
      rwa [show i = N.length by omega]
    | succ j => rw [hj] at e; simp at e
theorem netOk_nil : netOk [] := fun i ys e => by simp at e
theorem tree_net_ok {n : Int} {st : RSt} {r : Nat} (h0 : 0 < n) (h1 : n < 1000000) (g : Gd (r+n.toNat) st) : Rb (Cm.d_law_tree_net [.rs, .int n] st) fun d st' => ∃ N, d = netD N ∧ netOk N ∧ N.length = n.toNat ∧ Gd r st' := by
  rw [Cm.d_law_tree_net]; refine Rb.of ?_
  unfold Cm.g_law_tree_net
  simp
  rw [itRg1 (by omega) (by omega)]
  simp
  refine ob_for (fun pre ρ => ∃ op F st', ρ = ⟨[.sh .rs, .sh (.int n), .ow (.lst true (isD op)), .ow (.lst true (F.map tI)), .no, .no], st'⟩ ∧ needsOk pre.length op ∧ F.length = pre.length ∧ netOk F ∧ Gd (r + (n.toNat - pre.length)) st') ?_ ?_ ?_
  · exact ⟨[], [], st, rfl, ⟨by simp, by simp⟩, rfl, netOk_nil, g.mono (by simp)⟩
  · rintro pre x post _ hx ⟨op, F, st2, rfl, ⟨hs, hb⟩, hF, hN, g2⟩
    refine ⟨_, rfl, ?_⟩
    have hl := congrArg List.length hx
    simp at hl
    have hxe : x = pre.length := by
      have := rg_get (lo := 0) (hi := n - 1) (i := pre.length) (x := x) (by rw [hx]; simp)
      omega
    obtain ⟨m, st3, e3, m0, m1, g3⟩ := take_gd (r := r + (n.toNat - (pre.length + 1))) (n := 6) (g2.mono (by omega)) (by decide) (by decide)
    simp [e3]
    obtain ⟨s, hs0, es⟩ := atI_some (xs := [0, 0, 1, 2, 2, (3 : Int)]) (i := m) (by omega) (by simp; omega)
    have es' : atI [D.int 0, D.int 0, D.int 1, D.int 2, D.int 2, D.int 3] m = some (.int s) := by
      have := congrArg (Option.map D.int) es
      rwa [← atI_map] at this
    have hs1 : 0 ≤ s := by simp at hs0; omega
    rw [es']
    simp
    generalize hso : (if s < (op.length : Int) then s else (op.length : Int)) = so
    have so0 : 0 ≤ so ∧ so ≤ op.length := by subst hso; split <;> omega
    have hol := sorted_len hs hb
    rw [cutD_lo (by omega)]
    simp
    rw [moApp_i (by simp [sizeLine_eq]; omega)]
    simp
    rw [cutD_hi (by omega)]
    rw [opAdd_l (by simp) (by simp) (by simp [sizeLine_eq]; omega)]
    simp
    refine ⟨op.take ((op.length : Int) - so).toNat ++ [x], F ++ [op.drop ((op.length : Int) - so).toNat], st3, by simp, ?_, by simp [hF], ?_, g3⟩
    · refine ⟨?_, fun z hz => ?_⟩
      · rw [List.pairwise_append]
        refine ⟨hs.sublist (List.take_sublist _ _), by simp, fun a ha b hb' => ?_⟩
        simp at hb'
        have := hb a (List.mem_of_mem_take ha)
        omega
      · rcases List.mem_append.mp hz with hz | hz
        · have := hb z (List.mem_of_mem_take hz)
          omega
        · simp at hz; omega
    · refine netOk_append hN ?_
      rw [hF]
      exact ⟨hs.sublist (List.drop_sublist _ _), fun z hz => hb z (List.mem_of_mem_drop hz)⟩
  · rintro _ ⟨op, F, st2, rfl, ⟨hs, hb⟩, hF, hN, g2⟩
    simp at hF hs hb
    simp
    rw [opAdd_l (by simp) (by simp) (by simp [sizeLine_eq]; omega)]
    simp
    refine ⟨F ++ [op], by simp, netOk_append hN ?_, by simp; omega, g2.mono (by omega)⟩
    rw [hF]
    exact ⟨hs, hb⟩
theorem rg_needs {a b : Int} (h : 0 ≤ a) : needsOk b (rg a b) := ⟨rg_sorted a b, fun x hx => by rw [mem_rg] at hx; omega⟩
theorem sortU_needs {b : Int} {xs : List Int} (h : ∀ x ∈ xs, 0 ≤ x ∧ x < b) : needsOk b (sortU xs) := ⟨sortU_sorted _, fun x hx => h x (sortU_mem.mp hx)⟩
theorem net_ok {n : Int} {st : RSt} {r : Nat} (h0 : 0 < n) (h1 : n < 1000000) (g : Gd (r+2+9*n.toNat) st) : Rb (Cm.d_law_net [.rs, .int n] st) fun d st' => ∃ N, d = netD N ∧ netOk N ∧ N.length = n.toNat ∧ Gd r st' := by
  rw [Cm.d_law_net]; refine Rb.of ?_
  unfold Cm.g_law_net
  obtain ⟨way, st1, e1, w0, w1, g1⟩ := take_gd (r := r + 1 + 9*n.toNat) (n := 8) (g.mono (by omega)) (by decide) (by decide)
  obtain ⟨wd, st2, e2, d0, d1, g2⟩ := take_gd (r := r + 9*n.toNat) (n := 4) (g1.mono (by omega)) (by decide) (by decide)
  simp [e1, e2]
  by_cases hw : way = 0
  · simp [hw]
    rw [itRg1 (by omega) (by omega)]
    simp
    rw [lc_map (fun k => tI (rg (if k - (1 + wd) > 0 then k - (1 + wd) else 0) k))]
    · simp
      refine ⟨(rg 0 n).map fun k => rg (if k - (1 + wd) > 0 then k - (1 + wd) else 0) k, by simp, ?_, by simp, g2.mono (by omega)⟩
      intro i xs e
      rw [List.getElem?_map] at e
      obtain ⟨k, hk, rfl⟩ := Option.map_eq_some_iff.mp e
      have := rg_get hk
      rw [show (i : Int) = k by omega]
      exact rg_needs (by split <;> omega)
    · intro x hx
      rw [mem_rg] at hx
      simp
      rw [opRgT2' (by split <;> omega) (by split <;> omega) (by omega) (by omega)]
      simp
  simp [hw]
  by_cases hw1 : way = 1
  · simp [hw1]
    rw [itRg1 (by omega) (by omega)]
    simp
    rw [lc_map (fun k => .lst true (isD ((if 1 + wd ≤ k then [k - (1 + wd)] else []) ++ (if 0 < k % (1 + wd) then [k - 1] else []))))]
    · simp
      rw [lc_map (fun k => tI (sortU ((if 1 + wd ≤ k then [k - (1 + wd)] else []) ++ (if 0 < k % (1 + wd) then [k - 1] else []))))]
      · simp
        refine ⟨(rg 0 n).map fun k => sortU ((if 1 + wd ≤ k then [k - (1 + wd)] else []) ++ (if 0 < k % (1 + wd) then [k - 1] else [])), by simp, ?_, by simp, g2.mono (by omega)⟩
        intro i xs e
        rw [List.getElem?_map] at e
        obtain ⟨k, hk, rfl⟩ := Option.map_eq_some_iff.mp e
        have := rg_get hk
        rw [show (i : Int) = k by omega]
        refine sortU_needs fun x hx => ?_
        rcases List.mem_append.mp hx with hx | hx
        · split at hx
          · simp at hx; omega
          · simp at hx
        · split at hx
          · simp at hx
            have h2 : k % (1 + wd) ≠ 0 := by omega
            have : k ≠ 0 := by rintro rfl; simp at h2
            omega
          · simp at hx
      · intro x hx
        simp
        rw [← List.map_append, opSSet_i false (by split <;> split <;> simp)]
        simp
    · intro x hx
      have emd := opMd_i (i := x) (j := 1 + wd) (by omega)
      by_cases c1 : 1 + wd ≤ x <;> by_cases c2 : 0 < x % (1 + wd) <;> simp [c1, c2, emd]
  simp [hw1]
  by_cases hw2 : way = 2
  · simp [hw2]
    obtain ⟨d, st3, e3, N, rfl, hN, hl, g3⟩ := Rb_iff.mp (tree_net_ok (r := r) h0 h1 (g2.mono (by omega)))
    simp [e3]
    exact ⟨N, rfl, hN, hl, g3⟩
  simp [hw2]
  by_cases hw3 : way = 3
  · simp [hw3]
    rw [opFd_i (by decide) (by decide)]
    simp
    rw [itRg1 (by omega) (by omega)]
    simp
    generalize e3 : lcL _ _ _ _ _ _ = L
    obtain ⟨ys, st3, rfl, hl, hy, g3⟩ := lc_rd e3 tI (fun k xs => needsOk (if k < n / 2 then k else k - n / 2) xs) 9 r (g2.mono (by simp)) (fun x hx r st g => by
        rw [mem_rg] at hx
        by_cases c : x < n / 2
        · obtain ⟨d, st3, e3, xs, rfl, hxs, g3⟩ := Rb_iff.mp (some_needs_ok (k := x) (r := r) (by omega) (by omega) g)
          simp [c, e3]
          exact ⟨xs, rfl, hxs, g3⟩
        · obtain ⟨d, st3, e3, xs, rfl, hxs, g3⟩ := Rb_iff.mp (some_needs_ok (k := x - n / 2) (r := r) (by omega) (by omega) g)
          simp [c, e3]
          exact ⟨xs, rfl, hxs, g3⟩)
    simp
    rw [lc_map (fun p => tI (if (p.2 : Int) < n / 2 then p.1 else p.1.map (· + n / 2)))]
    · simp
      refine ⟨ys.zipIdx.map fun p => if (p.2 : Int) < n / 2 then p.1 else p.1.map (· + n / 2), by simp, ?_, by simp [hl], g3⟩
      intro i xs e
      rw [List.getElem?_map] at e
      obtain ⟨k, hk, rfl⟩ := Option.map_eq_some_iff.mp e
      rw [List.getElem?_zipIdx] at hk
      obtain ⟨y, hy1, rfl⟩ := Option.map_eq_some_iff.mp hk
      have hi : i < (rg 0 n).length := by rw [← hl]; exact (List.getElem?_eq_some_iff.mp hy1).1
      have h2 := List.getElem?_eq_getElem hi
      have h3 := hy i _ y h2 hy1
      have h4 := rg_get h2
      rw [show (rg 0 n)[i] = (i : Int) by omega] at h3
      simp only [Nat.zero_add]
      split at h3
      · rename_i c; rw [if_pos c]; exact h3
      · rename_i c; rw [if_neg c]
        refine ⟨?_, fun z hz => ?_⟩
        · rw [List.pairwise_map]
          exact h3.1.imp fun h => by omega
        · obtain ⟨w, hw, rfl⟩ := List.mem_map.mp hz
          have := h3.2 w hw
          omega
    · rintro ⟨ys, k⟩ hx
      by_cases c : (k : Int) < n / 2
      · simp [c]
      · simp [c]
        rw [lc_map (fun x => D.int (x + n / 2))]
        · simp
        · intro x hx
          simp
  · simp [hw3]
    rw [itRg1 (by omega) (by omega)]
    simp
    generalize e3 : lcL _ _ _ _ _ _ = L
    obtain ⟨ys, st3, rfl, hl, hy, g3⟩ := lc_rd e3 tI (fun k xs => needsOk k xs) 9 r (g2.mono (by simp)) (fun x hx r st g => by
        rw [mem_rg] at hx
        obtain ⟨d, st3, e3, xs, rfl, hxs, g3⟩ := Rb_iff.mp (some_needs_ok (k := x) (r := r) (by omega) (by omega) g)
        simp [e3]
        exact ⟨xs, rfl, hxs, g3⟩)
    simp
    refine ⟨ys, rfl, ?_, by simp [hl], g3⟩
    intro i xs e
    have hi : i < (rg 0 n).length := by rw [← hl]; exact (List.getElem?_eq_some_iff.mp e).1
    have h2 := List.getElem?_eq_getElem hi
    have h3 := hy i _ xs h2 e
    have := rg_get h2
    rwa [show (i : Int) = (rg 0 n)[i] by omega]
def pl : Nat → D → Bool
  | _, .int _ => true
  | _, .str _ => true
  | _, .non => true
  | k + 1, .lst _ xs => xs.all (pl k)
  | k + 1, .tup xs => xs.all (pl k)
  | _, _ => false
@[simp] theorem pl_int (k : Nat) (i : Int) : pl k (.int i) = true := by cases k <;> rfl
@[simp] theorem pl_str (k : Nat) (i : Str) : pl k (.str i) = true := by cases k <;> rfl
@[simp] theorem pl_non (k : Nat) : pl k .non = true := by cases k <;> rfl
@[simp] theorem pl_lst (k : Nat) (o : Bool) (xs : List D) : pl (k + 1) (.lst o xs) = xs.all (pl k) := rfl
@[simp] theorem pl_tup (k : Nat) (xs : List D) : pl (k + 1) (.tup xs) = xs.all (pl k) := rfl
end Cm

namespace Cm
open PySem Fw L2
def nd (N : List (List Int)) (o : Int) : List Int := N.getD o.toNat []
theorem ix_net {N : List (List Int)} {o : Int} (h0 : 0 ≤ o) (h1 : o < N.length) : atI N o = some (nd N o) := atI_getD _ h0 h1
theorem nd_ok {N : List (List Int)} {o : Int} (hN : netOk N) (h0 : 0 ≤ o) (h1 : o < N.length) : needsOk o (nd N o) := by
  have := hN o.toNat (nd N o) (by
    show N[o.toNat]? = some (N.getD o.toNat [])
    rw [List.getD_eq_getElem?_getD, List.getElem?_eq_getElem (by omega)]; rfl)
  rwa [show ((o.toNat : Nat) : Int) = o by omega] at this
theorem rg_cut {a b c : Int} (h : a ≤ b) (h2 : b ≤ c) : rg a c = rg a b ++ rg b c := by
  refine strict_same (rg_sorted a c) ?_ fun z => ?_
  · rw [List.pairwise_append]
    exact ⟨rg_sorted _ _, rg_sorted _ _, fun x hx y hy => by rw [mem_rg] at hx hy; omega⟩
  · rw [List.mem_append, mem_rg, mem_rg, mem_rg]; omega
end Cm

namespace Cm
open PySem Fw L2
abbrev mvD (p : Str × Int) : D := .tup [.str p.1, .int p.2]
def optD : Option Str → D
  | none => .non
  | some x => .str x
def ready (N : List (List Int)) (S : List Int) (w : Int) : Bool := (nd N w).all fun n => decide (n ∈ S)
def fault (N : List (List Int)) (rooms : Int) (S : List Int) (word : Str) (w : Int) : Option Str :=
  if word = "clear" then (if w ∈ S then none else some "empty") else if w ∈ S then some "there" else if ready N S w = false then some "needs" else if (S.length : Int) < rooms then none else some "full"
@[simp] theorem shr_optD (o : Option Str) : shr (optD o) = true := by cases o <;> simp [optD]
@[simp] theorem clo_optD (o : Option Str) : clo (optD o) = true := by cases o <;> simp [optD]
@[simp] theorem pl_optD (k : Nat) (o : Option Str) : pl k (optD o) = true := by cases o <;> simp [optD]
@[simp] theorem fz_optD (o : Option Str) : fz (optD o) = optD o := by cases o <;> simp [optD]
@[simp] theorem frz_optD (o : Option Str) : frz (optD o) = optD o := by cases o <;> simp [optD]
@[simp] theorem opIsN_optD (o : Option Str) : opIsN [optD o, .non] = some (.bl o.isNone) := by cases o <;> rfl
theorem fault_ok {N : List (List Int)} {rooms : Int} {S : List Int} {word : Str} {w : Int} {st : RSt} (h0 : 0 ≤ w) (h1 : w < N.length) : d_fault_of [netD N, .int rooms, tI S, mvD (word, w)] st = .ok (optD (fault N rooms S word w)) st := by
  rw [d_fault_of, fnRes_eq]
  unfold g_fault_of fault
  by_cases hc : word = "clear"
  · by_cases hw : w ∈ S <;> simp [hc, hw, optD]
  · by_cases hw : w ∈ S
    · simp [hc, hw, optD]
    · simp [hc, hw, ix_net h0 h1]
      rw [lc_map (fun n => .bl (decide (n ∈ S)))]
      · rw [lstK_ok, opsK1_ok, evOps_nil, opsK2_ok, opK_ok, opAll_b, show (nd N w).all (fun n => decide (n ∈ S)) = ready N S w from rfl]
        by_cases ha : ready N S w = true
        · by_cases hr : (S.length : Int) < rooms <;> simp [ha, hr, optD]
        · simp only [Bool.not_eq_true] at ha
          simp [ha, optD]
      · intro n hn
        simp
theorem word_ok {N : List (List Int)} {rooms : Int} {S : List Int} {word : Str} {w : Int} {st : RSt} (h0 : 0 ≤ w) (h1 : w < N.length) : d_law_word [netD N, .int rooms, tI S, mvD (word, w)] st = .ok (optD (fault N rooms S word w)) st := by
  rw [d_law_word, fnRes_eq]
  unfold g_law_word fault
  have e0 : atI [D.str word, D.int w] 0 = some (.str word) := rfl
  have e1 : atI [D.str word, D.int w] 1 = some (.int w) := rfl
  by_cases hc : word = "clear"
  · subst hc
    by_cases hw : w ∈ S <;> simp [e0, e1, hw, optD]
  · by_cases hw : w ∈ S
    · simp [e0, e1, hc, hw, optD]
    · simp [e0, e1, hc, hw, ix_net h0 h1]
      rw [lc_map (fun n => .bl (decide (n ∈ S)))]
      · rw [lstK_ok, opsK1_ok, evOps_nil, opsK2_ok, opK_ok, opAll_b, show (nd N w).all (fun n => decide (n ∈ S)) = ready N S w from rfl]
        by_cases ha : ready N S w = true
        · by_cases hr : (S.length : Int) < rooms
          · have hr' : ¬ rooms ≤ (S.length : Int) := by omega
            simp [ha, hr, hr', optD]
          · have hr' : rooms ≤ (S.length : Int) := by omega
            simp [ha, hr, hr', optD]
        · simp only [Bool.not_eq_true] at ha
          simp [ha, optD]
      · intro n hn
        simp
theorem sortI_strict {xs : List Int} (h : xs.Nodup) : (sortI xs).Pairwise (· < ·) := by
  have s := sortI_sorted xs
  have n : (sortI xs).Nodup := (sortI_perm xs).nodup_iff.mpr h
  exact (s.and (List.nodup_iff_pairwise_ne.mp n)).imp fun ⟨p, q⟩ => by omega
theorem rooms_ok {n : Nat} {st : RSt} {r : Nat} (g : Gd (r + 3) st) :
    ∃ a b c rooms st1 st2 st3, takeD [.rs, .int 6] st = .ok (.int a) st1 ∧ takeD [.rs, .int 3] st1 = .ok (.int b) st2 ∧ takeD [.rs, .int 4] st2 = .ok (.int c) st3 ∧ opFd [.int c, .int 3] = some (.int (c / 3)) ∧ atI [D.int (1 + a), D.int ((n : Int) + b)] (c / 3) = some (.int rooms) ∧ 1 ≤ rooms + (if n = 0 then 1 else 0) ∧ rooms ≤ n + 8 ∧ Gd r st3 := by
  obtain ⟨a, st1, e1, a0, a1, g1⟩ := take_gd (r := r + 2) (n := 6) (g.mono (by omega)) (by decide) (by decide)
  obtain ⟨b, st2, e2, b0, b1, g2⟩ := take_gd (r := r + 1) (n := 3) (g1.mono (by omega)) (by decide) (by decide)
  obtain ⟨c, st3, e3, c0, c1, g3⟩ := take_gd (r := r) (n := 4) (g2.mono (by omega)) (by decide) (by decide)
  obtain ⟨x, hx, ex⟩ := atI_some (xs := [1 + a, (n : Int) + b]) (i := c / 3) (by omega) (by simp; omega)
  have ex' : atI [D.int (1 + a), D.int ((n : Int) + b)] (c / 3) = some (.int x) := by
    have := congrArg (Option.map D.int) ex
    rwa [← atI_map] at this
  simp at hx
  exact ⟨a, b, c, x, st1, st2, st3, e1, e2, e3, opFd_i (by decide) (by decide), ex', by split <;> omega, by omega, g3⟩
end Cm

namespace Cm
open PySem Fw L2
theorem ob_sq {g : En → Out Fl} {o : Out Fl} {Q : Fl → En → Prop} (h : Ob o fun fl ρ => match fl with | .nx => Ob (g ρ) Q | fl => Q fl ρ) : Ob (sqK g o) Q := by
  obtain ⟨fl, ρ, rfl, q⟩ := Ob_iff.mp h
  cases fl with
  | nx => rw [sqK_nx]; exact q
  | bk => rw [sqK_bk, Ob_ok]; exact q
  | ct => rw [sqK_ct, Ob_ok]; exact q
  | rt d => rw [sqK_rt, Ob_ok]; exact q
inductive Und (N : List (List Int)) (A : List Int) : Int → Prop
  | ask {a : Int} (h : a ∈ A) : Und N A a
  | need {u w : Int} (h : Und N A u) (k : w ∈ nd N u) : Und N A w
theorem Und.range {N : List (List Int)} {A : List Int} {w : Int} (hN : netOk N) (hA : ∀ a ∈ A, 0 ≤ a ∧ a < N.length) (h : Und N A w) : 0 ≤ w ∧ w < N.length := by
  induction h with
  | ask h => exact hA _ h
  | need h k ih =>
    have := (nd_ok hN ih.1 ih.2).2 _ k
    omega
theorem Und.mono {N : List (List Int)} {A A' : List Int} {w : Int} (h : Und N A w) (k : ∀ a ∈ A, Und N A' a) : Und N A' w := by
  induction h with
  | ask h => exact k _ h
  | need h k ih => exact .need ih k
theorem Und.split {N : List (List Int)} {A : List Int} {w : Int} (h : Und N A w) : ∃ a ∈ A, Und N [a] w := by
  induction h with
  | ask h => exact ⟨_, h, .ask (by simp)⟩
  | need h k ih =>
    obtain ⟨a, ha, u⟩ := ih
    exact ⟨a, ha, .need u k⟩
noncomputable def dc (p : Prop) : Bool := @decide p (Classical.propDecidable p)
@[simp] theorem dc_iff {p : Prop} : dc p = true ↔ p := @decide_eq_true_iff p (Classical.propDecidable p)
theorem dc_congr {p q : Prop} (h : p ↔ q) : dc p = dc q := Bool.eq_iff_iff.mpr (dc_iff.trans (h.trans dc_iff.symm))
theorem dc_f {p : Prop} (h : ¬ p) : dc p = false := by
  cases e : dc p
  · rfl
  · exact absurd (dc_iff.mp e) h
noncomputable def need (N : List (List Int)) (A : List Int) : List Int := (rg 0 N.length).filter fun w => dc (Und N A w)
theorem mem_need {N : List (List Int)} {A : List Int} {w : Int} (hN : netOk N) (hA : ∀ a ∈ A, 0 ≤ a ∧ a < N.length) : w ∈ need N A ↔ Und N A w := by
  unfold need
  rw [List.mem_filter, mem_rg]
  rw [dc_iff]
  exact ⟨fun h => h.2, fun h => ⟨h.range hN hA, h⟩⟩
theorem need_sorted (N : List (List Int)) (A : List Int) : (need N A).Pairwise (· < ·) := (rg_sorted _ _).sublist List.filter_sublist
theorem need_needs {N : List (List Int)} {A : List Int} (hN : netOk N) (hA : ∀ a ∈ A, 0 ≤ a ∧ a < N.length) : needsOk N.length (need N A) :=
  ⟨need_sorted N A, fun x hx => ((mem_need hN hA).mp hx).range hN hA⟩
theorem rg_atI {n : Nat} {w : Int} (h0 : 0 ≤ w) (h1 : w < n) : atI (rg 0 (n : Int)) w = some w := by
  rw [atI_get (by omega) (by simp; omega)]
  have := rg_get (List.getElem?_eq_getElem (l := rg 0 (n : Int)) (i := w.toNat) (by simp; omega))
  congr 1
  omega
theorem rg_setB {n : Nat} {y : Int} {f g : Int → Bool} (h0 : 0 ≤ y) (h1 : y < n) (hy : g y = true) (h : ∀ w, w ≠ y → g w = f w) : ((rg 0 (n : Int)).map fun w => D.bl (f w)).set y.toNat (.bl true) = (rg 0 (n : Int)).map fun w => D.bl (g w) := by
  refine List.ext_getElem (by simp) fun i k1 k2 => ?_
  rw [List.getElem_set]
  simp at k1
  have hg : (rg 0 (n : Int))[i]'(by simpa using k1) = (i : Int) := by
    have := rg_get (List.getElem?_eq_getElem (l := rg 0 (n : Int)) (i := i) (by simpa using k1))
    omega
  simp only [List.getElem_map, hg]
  split
  · rename_i c
    have : (i : Int) = y := by omega
    rw [this, hy]
  · rename_i c
    rw [h i (by omega)]
theorem rgC_eq (n : Nat) : rgC ((n : Int) - 1) (-1) n = ((List.range n).map fun k => (n : Int) - 1 - (k : Nat)).map .int := by
  unfold rgC
  rw [List.map_map]
  refine List.map_congr_left fun k hk => ?_
  show D.int ((n : Int) - 1 + (k : Nat) * (-1)) = D.int ((n : Int) - 1 - (k : Nat))
  congr 1
  omega
theorem rgC_pos {n : Nat} {pre post : List Int} {x : Int} (hx : (List.range n).map (fun k => (n : Int) - 1 - (k : Nat)) = pre ++ x :: post) : x = (n : Int) - 1 - pre.length ∧ 0 ≤ x ∧ x < n ∧ ∀ u, u ∈ pre ↔ x < u ∧ u < n := by
  have hlen := congrArg List.length hx
  simp at hlen
  have hxe : x = (n : Int) - 1 - pre.length := by
    have h2 := congrArg (fun l => l[pre.length]?) hx
    simp at h2
    rw [List.getElem?_range (by omega)] at h2
    simp at h2
    exact h2.symm
  refine ⟨hxe, by omega, by omega, fun u => ?_⟩
  have h2 : pre = ((List.range n).map fun k => (n : Int) - 1 - (k : Nat)).take pre.length := by rw [hx]; simp
  rw [h2, ← List.map_take, List.take_range]
  simp only [List.mem_map, List.mem_range]
  constructor
  · rintro ⟨k, hk, rfl⟩; omega
  · intro hu; exact ⟨((n : Int) - 1 - u).toNat, by omega, by omega⟩
noncomputable def fl0 (A : List Int) (w : Int) : Bool := dc (w ∈ A)
noncomputable def fl1 (N : List (List Int)) (A pre : List Int) (w : Int) : Bool := dc (w ∈ A ∨ ∃ u ∈ pre, Und N A u ∧ w ∈ nd N u)
noncomputable def fl2 (N : List (List Int)) (A pre pre2 : List Int) (w : Int) : Bool := dc (w ∈ A ∨ (∃ u ∈ pre, Und N A u ∧ w ∈ nd N u) ∨ w ∈ pre2)
theorem fl1_und {N : List (List Int)} {A pre : List Int} {x : Int} (hN : netOk N) (hA : ∀ a ∈ A, 0 ≤ a ∧ a < N.length) (hp : ∀ u, x < u ∧ u < N.length → u ∈ pre) : fl1 N A pre x = true ↔ Und N A x := by
  unfold fl1
  rw [dc_iff]
  constructor
  · rintro (h | ⟨u, _, h, k⟩)
    · exact .ask h
    · exact .need h k
  · intro h
    cases h with
    | ask h => exact .inl h
    | @need u _ h k =>
      have hr := h.range hN hA
      have := (nd_ok hN hr.1 hr.2).2 _ k
      exact .inr ⟨u, hp u ⟨by omega, hr.2⟩, h, k⟩
theorem all_needed_ok {N : List (List Int)} {A : List Int} {st : RSt} (hN : netOk N) (hA : ∀ a ∈ A, 0 ≤ a ∧ a < N.length) (hl : N.length ≤ 1000000) : d_all_needed [netD N, tI A] st = .ok (.lst true (isD (need N A))) st := by
  rw [d_all_needed, fnRes_eq]
  unfold g_all_needed
  simp
  rw [opMul_l (by simp) (by omega) (by simp; omega) (by omega)]
  simp
  rw [show (List.replicate N.length (D.bl false)) = (rg 0 N.length).map fun w => D.bl (fl0 [] w) by
    refine List.ext_getElem (by simp) fun i h1 h2 => ?_
    simp [fl0, dc_f]]
  obtain ⟨ρ', e, hI⟩ := forL_inv (t := tgN 3) (body := sSet 2 (evVar 3) (evC (D.bl true))) (fg := [3]) (toD := D.int) (fun (pre : List Int) (ρ : En) => ρ = ⟨[.sh (netD N), .sh (tI A), .ow (.lst true ((rg 0 N.length).map fun w => D.bl (fl0 pre w))), .no, .no], st⟩) A [] _ rfl (by
    rintro pre x post _ hx rfl
    refine ⟨_, rfl, ?_⟩
    have hx1 := hA x (by rw [List.nil_append] at hx; rw [hx]; simp)
    simp
    rw [ixN_get (by omega) (by omega)]
    simp
    have := rg_setB (n := N.length) (y := x) (f := fl0 pre) (g := fl0 (pre ++ [x])) hx1.1 hx1.2 (by simp [fl0]) (by intro w hw; simp [fl0, hw])
    simpa using this)
  rw [e, hI]
  simp
  rw [rgcK_ok _ _ _ (rgOk_of (by omega) (by omega) (by omega) (by omega)), show ((N.length : Int) - 1 - -1).toNat = N.length by omega, rgC_eq]
  simp only [forK_ok]
  clear e hI ρ'
  obtain ⟨ρ', e, hI⟩ := forL_inv (t := tgN 3) (body := sIf (evT (evOp [.var 2, .var 3] opIxA)) (sFor (itSeq (evOp [.var 0, .var 3] opIxA)) (tgN 4) (sSet 2 (evVar 4) (evC (D.bl true))) [4]) nxS) (fg := [3, 4]) (toD := D.int)
    (fun (pre : List Int) (ρ : En) => ρ = ⟨[.sh (netD N), .sh (tI A), .ow (.lst true ((rg 0 N.length).map fun w => D.bl (fl1 N A pre w))), .no, .no], st⟩) ((List.range N.length).map fun k => (N.length : Int) - 1 - (k : Nat)) [] ⟨[.sh (netD N), .sh (tI A), .ow (.lst true ((rg 0 N.length).map fun w => D.bl (fl0 A w))), .no, .no], st⟩ (by simp [fl0, fl1]) (by
    rintro pre x post _ hx rfl
    refine ⟨_, rfl, ?_⟩
    rw [List.nil_append] at hx
    obtain ⟨_, x0, x1, hpre⟩ := rgC_pos hx
    have hux := fl1_und (pre := pre) (x := x) hN hA fun u hu => (hpre u).mpr hu
    simp [rg_atI x0 x1]
    by_cases c : fl1 N A pre x = true
    · have cu := hux.mp c
      simp [c, ix_net x0 x1]
      refine ob_forL (fun pre2 ρ => ρ = ⟨[.sh (netD N), .sh (tI A), .ow (.lst true ((rg 0 N.length).map fun w => D.bl (fl2 N A pre pre2 w))), .sh (.int x), .no], st⟩) (by simp [fl1, fl2]) ?_ ?_
      · rintro pre2 y post2 _ hy rfl
        refine ⟨_, rfl, ?_⟩
        have hy1 := (nd_ok hN x0 x1).2 y (by rw [hy]; simp)
        simp
        rw [ixN_get (by omega) (by omega)]
        simp
        have := rg_setB (n := N.length) (y := y) (f := fl2 N A pre pre2) (g := fl2 N A pre (pre2 ++ [y])) (by omega) (by omega) (by simp [fl2]) (by intro w hw; simp [fl2, hw])
        simpa using this
      · rintro _ rfl
        simp
        intro a h1 h2
        unfold fl1 fl2
        refine dc_congr (or_congr_right ?_)
        constructor
        · rintro (⟨u, h, k⟩ | k)
          · exact ⟨u, by simp [h], k⟩
          · exact ⟨x, by simp, cu, k⟩
        · rintro ⟨u, h, k⟩
          rcases List.mem_append.mp h with h | h
          · exact .inl ⟨u, h, k⟩
          · simp at h; subst h; exact .inr k.2
    · have cu : ¬ Und N A x := fun z => c (hux.mpr z)
      simp [c]
      intro a h1 h2
      unfold fl1
      refine dc_congr (or_congr_right ?_)
      constructor
      · rintro ⟨u, h, k⟩
        exact ⟨u, by simp [h], k⟩
      · rintro ⟨u, h, k⟩
        rcases List.mem_append.mp h with h | h
        · exact ⟨u, h, k⟩
        · simp at h; subst h; exact absurd k.1 cu)
  rw [e, hI]
  simp
  rw [itRg1 (by omega) (by omega)]
  simp
  rw [lc_fm (fun w => fl1 N A ((List.range N.length).map fun k => (N.length : Int) - 1 - (k : Nat)) w) D.int]
  · simp
    unfold need
    refine congrArg (fun l => List.map D.int l) (List.filter_congr fun w hw => ?_)
    rw [mem_rg] at hw
    refine Bool.eq_iff_iff.mpr ?_
    refine (fl1_und hN hA fun u hu => ?_).trans dc_iff.symm
    exact List.mem_map.mpr ⟨((N.length : Int) - 1 - u).toNat, by simp; omega, by omega⟩
  · intro w hw
    rw [mem_rg] at hw
    simp [rg_atI hw.1 hw.2]
    by_cases c : fl1 N A ((List.range N.length).map fun k => (N.length : Int) - 1 - (k : Nat)) w = true
    · simp [c]
    · simp only [Bool.not_eq_true] at c
      simp [c]
end Cm

namespace Cm
open PySem Fw L2
theorem moExt_l {ds : List D} {o : Bool} {xs : List D} (h : shrL xs = true) (k : ds.length + xs.length ≤ sizeLine) : moExt ds (.lst o xs) = some (ds ++ xs) := by
  simp [moExt, h, k]
end Cm

namespace Cm
open PySem Fw L2
abbrev Mv := Str × Int
def behindF (S : List Int) (m : Mv) : List Int := if m.1 = "do" then sortI (S ++ [m.2]) else S.filter fun w => !decide (w = m.2)
def runP (N : List (List Int)) (rooms : Int) : List Int → List Mv → List (List Int) × Option Str
  | _, [] => ([], none)
  | S, m :: ms => match fault N rooms S m.1 m.2 with
    | some x => ([], some x)
    | none => (behindF S m :: (runP N rooms (behindF S m) ms).1, (runP N rooms (behindF S m) ms).2)
def endP (N : List (List Int)) (rooms : Int) : List Int → List Mv → Option (List Int)
  | S, [] => some S
  | S, m :: ms => match fault N rooms S m.1 m.2 with
    | some _ => none
    | none => endP N rooms (behindF S m) ms
theorem endP_append {N : List (List Int)} {rooms : Int} : ∀ {S : List Int} {a b : List Mv}, endP N rooms S (a ++ b) = (endP N rooms S a).bind fun S' => endP N rooms S' b
  | S, [], b => rfl
  | S, m :: a, b => by
    rw [List.cons_append, endP, endP]
    cases fault N rooms S m.1 m.2 with
    | some x => rfl
    | none => exact endP_append
theorem endP_run {N : List (List Int)} {rooms : Int} : ∀ {S S' : List Int} {ms : List Mv}, endP N rooms S ms = some S' → (runP N rooms S ms).2 = none ∧ ∃ pre, S :: (runP N rooms S ms).1 = pre ++ [S']
  | S, S', [], e => by
    cases e
    exact ⟨rfl, [], rfl⟩
  | S, S', m :: ms, e => by
    rw [endP] at e
    rw [runP]
    cases hf : fault N rooms S m.1 m.2 with
    | some x => rw [hf] at e; cases e
    | none =>
      rw [hf] at e
      obtain ⟨h1, pre, h2⟩ := endP_run e
      exact ⟨h1, S :: pre, by simp only; rw [h2]; rfl⟩
theorem behind_ok {S : List Int} {m : Mv} {st : RSt} (hS : S.length < 1000000) : d_law_behind [tI S, mvD m] st = .ok (tI (behindF S m)) st := by
  obtain ⟨word, w⟩ := m
  rw [d_law_behind, fnRes_eq]
  unfold g_law_behind behindF
  have e0 : atI [D.str word, D.int w] 0 = some (.str word) := rfl
  have e1 : atI [D.str word, D.int w] 1 = some (.int w) := rfl
  by_cases c : word = "do"
  · simp [c, e1]
    rw [opAdd_t (by simp) (by simp) (by simp [sizeLine_eq]; omega)]
    have hs : opSort [D.tup (List.map D.int S ++ [D.int w])] = some (.lst true (isD (sortI (S ++ [w])))) := by
      rw [show List.map D.int S ++ [D.int w] = (S ++ [w]).map D.int by simp, opSort_t]
    simp [hs]
  · simp [c, e0]
    rw [lc_fm (fun x => !decide (x = w)) D.int]
    · simp
    · intro x hx
      by_cases h : x = w <;> simp [e1, h]
theorem atI_last {α : Type} {xs : List α} {x : α} : atI (xs ++ [x]) (-1) = some x := by
  unfold atI
  have : ixN (xs ++ [x]).length (-1) = some xs.length := by
    unfold ixN
    rw [if_neg (by omega), if_pos (by simp; omega)]
    simp
    omega
  rw [this]
  simp
theorem played_ok {N : List (List Int)} {rooms : Int} {ms : List Mv} {st : RSt} (hm : ∀ m ∈ ms, 0 ≤ m.2 ∧ m.2 < N.length) (hl : ms.length < 900000) : d_law_played [netD N, .int rooms, .lst false (ms.map mvD)] st = .ok (.tup [.lst true (([] :: (runP N rooms [] ms).1).map tI), optD (runP N rooms [] ms).2]) st := by
  suffices hs : Rb (d_law_played [netD N, .int rooms, .lst false (ms.map mvD)] st) fun d st' => d = (.tup [.lst true (([] :: (runP N rooms [] ms).1).map tI), optD (runP N rooms [] ms).2]) ∧ st' = st by
    obtain ⟨d, st', e, rfl, rfl⟩ := Rb_iff.mp hs
    exact e
  rw [d_law_played]; refine Rb.of ?_
  unfold g_law_played
  simp
  refine ob_sq (Ob.mono (forL_inv2 (toD := mvD) (fun pre ρ => ∃ post T S, ms = pre ++ post ∧ ρ = ⟨[.sh (netD N), .sh (.int rooms), .sh (.lst false (ms.map mvD)), .ow (.lst true ((T ++ [S]).map tI)), .no, .no], st⟩ ∧ T.length ≤ pre.length ∧ S.length ≤ pre.length ∧
      ([] :: (runP N rooms [] ms).1) = T ++ (S :: (runP N rooms S post).1) ∧ (runP N rooms [] ms).2 = (runP N rooms S post).2)
    (fun fl ρ => fl = .rt (.tup [.lst true (([] :: (runP N rooms [] ms).1).map tI), optD (runP N rooms [] ms).2]) ∧ ρ.st = st) ms [] _ ⟨ms, [], [], rfl, by simp, by simp, by simp, rfl, rfl⟩ ?_) ?_)
  · rintro pre m post _ hx ⟨post', T, S, hp, rfl, hT, hS, h1, h2⟩
    rw [List.nil_append] at hx
    have hpp : post' = m :: post := List.append_cancel_left (hp.symm.trans hx)
    subst hpp
    have hlen := congrArg List.length hx
    simp at hlen
    refine ⟨_, rfl, ?_⟩
    have hm' := hm m (by rw [hx]; simp)
    obtain ⟨word, w⟩ := m
    have ef := word_ok (N := N) (rooms := rooms) (S := S) (word := word) (w := w) (st := st) hm'.1 hm'.2
    have eb := behind_ok (S := S) (m := (word, w)) (st := st) (by omega)
    have el : atI (List.map tI T ++ [tI S]) (-1) = some (tI S) := atI_last
    rw [runP] at h1 h2
    simp only [tI, isD] at el
    cases hf : fault N rooms S word w with
    | some x =>
      rw [hf] at ef
      simp only [hf] at h1 h2
      simp [el, ef]
      simp [optD, opNoN]
      have h3 := congrArg (List.map tI) h1
      simp only [List.map_append, List.map_cons, List.map_nil] at h3
      exact ⟨h3.symm, by rw [h2]⟩
    | none =>
      rw [hf] at ef
      simp only [hf] at h1 h2
      simp [el, ef]
      simp [optD, opNoN, el, eb]
      rw [moApp_i (by simp [sizeLine_eq]; omega)]
      simp
      refine ⟨post, hx, T ++ [S], behindF S (word, w), by simp, by simp; omega, ?_, by rw [h1]; simp, h2⟩
      unfold behindF
      split
      · rw [(sortI_perm _).length_eq]; simp; omega
      · have := List.length_filter_le (fun x => !decide (x = w)) S
        simp only; omega
  · rintro fl ρ (⟨rfl, post, T, S, hp, rfl, hT, hS, h1, h2⟩ | ⟨rfl, hst⟩)
    · have hpp : post = [] := by
        have := congrArg List.length hp
        rw [List.nil_append, List.length_append] at this
        exact List.length_eq_zero_iff.mp (by omega)
      subst hpp
      simp [runP] at h1 h2
      have h3 := congrArg (List.map tI) h1
      simp only [List.map_append, List.map_cons, List.map_nil] at h3
      simp
      exact ⟨h3.symm, by rw [h2]; rfl⟩
    · obtain ⟨vs, st'⟩ := ρ
      simp at hst
      simp [hst]
theorem is_move_ok {N : List (List Int)} {m : Mv} {st : RSt} (hw : m.1 = "do" ∨ m.1 = "clear") (h0 : 0 ≤ m.2) (h1 : m.2 < N.length) : d_law_is_move [netD N, mvD m] st = .ok (.bl true) st := by
  obtain ⟨word, w⟩ := m
  rw [d_law_is_move, fnRes_eq]
  unfold g_law_is_move
  have e0 : atI [D.str word, D.int w] 0 = some (.str word) := rfl
  have e1 : atI [D.str word, D.int w] 1 = some (.int w) := rfl
  have e2 : opIn true [.str word, .tup [.str "do", .str "clear"]] = some (.bl false) := by
    rcases hw with rfl | rfl <;> rfl
  simp [e0, e1, e2, tyD, PT.is]
  simp [h0, h1]
theorem does_ok {N : List (List Int)} {rooms : Int} {ms : List Mv} {A S : List Int} {st : RSt} (hm : ∀ m ∈ ms, (m.1 = "do" ∨ m.1 = "clear") ∧ 0 ≤ m.2 ∧ m.2 < N.length) (hl : ms.length < 900000) (he : endP N rooms [] ms = some S) : d_law_does [netD N, .int rooms, .lst false (ms.map mvD), tI A] st = .ok (.bl (A.all fun a => decide (a ∈ S))) st := by
  rw [d_law_does, fnRes_eq]
  unfold g_law_does
  have ep := played_ok (N := N) (rooms := rooms) (ms := ms) (st := st) (fun m h => (hm m h).2) hl
  obtain ⟨h1, pre, h2⟩ := endP_run he
  rw [h1, h2] at ep
  have el : atI (List.map tI pre ++ [tI S]) (-1) = some (tI S) := atI_last
  simp [tyD, PT.is]
  rw [lc_map (fun _ => .bl true)]
  · have : ∀ ms : List Mv, ms.all (fun _ => true) = true := fun ms => by simp
    have ea : opAll [.lst true (ms.map fun _ => D.bl true)] = some (.bl true) := by rw [opAll_b (f := fun _ => true), this]
    simp [ea]
    simp [ep, optD]
    rw [lc_map (fun a => .bl (decide (a ∈ S)))]
    · rw [lstK_ok, opsK1_ok, evOps_nil, opsK2_ok, opK_ok, opAll_b]
      simp
    · intro a ha
      simp [el]
  · intro m hmm
    have := is_move_ok (N := N) (m := m) (st := st) (hm m hmm).1 (hm m hmm).2.1 (hm m hmm).2.2
    simp [this]
end Cm

namespace Cm
open PySem Fw L2
def clr (u : Int) : Mv := ("clear", u)
def goneR (N : List (List Int)) (A : List Int) (w : Int) (ws : List Int) : List Int := (nd N w).filter fun u => !decide (u ∈ A) && ws.all fun v => !decide (u ∈ nd N v)
def planR (N : List (List Int)) (A : List Int) : List Int → List Mv
  | [] => []
  | w :: ws => ("do", w) :: ((goneR N A w ws).map clr ++ planR N A ws)
def keep (N : List (List Int)) (A ws : List Int) (u : Int) : Bool := decide (u ∈ A) || ws.any fun v => decide (u ∈ nd N v)
theorem keep_iff {N : List (List Int)} {A ws : List Int} {u : Int} : keep N A ws u = true ↔ u ∈ A ∨ ∃ v ∈ ws, u ∈ nd N v := by
  simp [keep]
theorem mem_gone {N : List (List Int)} {A ws : List Int} {u w : Int} : u ∈ goneR N A w ws ↔ u ∈ nd N w ∧ keep N A ws u = false := by
  unfold goneR keep
  rw [List.mem_filter]
  simp
structure GoodO (N : List (List Int)) (A O : List Int) : Prop where
  nd : O.Nodup
  rng : ∀ w ∈ O, 0 ≤ w ∧ w < N.length
  bef : ∀ pre w ws, O = pre ++ w :: ws → (∀ u ∈ Cm.nd N w, u ∈ pre) ∧ keep N A ws w = true
def thF (N : List (List Int)) (A pre ws : List Int) : List Int := pre.filter (keep N A ws)
theorem keep_cons {N : List (List Int)} {A ws : List Int} {u w : Int} : keep N A (w :: ws) u = (decide (u ∈ nd N w) || keep N A ws u) := by
  unfold keep
  rw [List.any_cons]
  cases decide (u ∈ A) <;> cases decide (u ∈ nd N w) <;> simp
theorem gone_eq {N : List (List Int)} {A pre ws O : List Int} {w : Int} (hN : netOk N) (g : GoodO N A O) (e : O = pre ++ w :: ws) : (sortI (thF N A pre (w :: ws) ++ [w])).filter (fun u => !keep N A ws u) = goneR N A w ws := by
  obtain ⟨h1, h2⟩ := g.bef _ _ _ e
  have hw := g.rng w (by rw [e]; simp)
  have hnp : (pre ++ [w]).Nodup := by
    have := g.nd
    rw [e, show pre ++ w :: ws = pre ++ [w] ++ ws by simp] at this
    exact (List.nodup_append.mp this).1
  have hnt : (thF N A pre (w :: ws) ++ [w]).Nodup := by
    rw [List.nodup_append] at hnp ⊢
    exact ⟨hnp.1.sublist List.filter_sublist, hnp.2.1, fun a ha b hb => hnp.2.2 a (List.mem_filter.mp ha).1 b hb⟩
  refine strict_same ((sortI_strict hnt).sublist List.filter_sublist) ((nd_ok hN hw.1 hw.2).1.sublist List.filter_sublist) fun u => ?_
  rw [List.mem_filter, (sortI_perm _).mem_iff, mem_gone]
  unfold thF
  simp only [List.mem_append, List.mem_filter, List.mem_singleton, keep_cons, Bool.not_eq_true', Bool.or_eq_true, decide_eq_true_eq]
  constructor
  · rintro ⟨⟨_, h | h⟩ | rfl, k⟩
    · exact ⟨h, k⟩
    · rw [h] at k; cases k
    · rw [h2] at k; cases k
  · rintro ⟨h, k⟩
    exact ⟨.inl ⟨h1 u h, .inl h⟩, k⟩
theorem th_next {N : List (List Int)} {A pre ws O : List Int} {w : Int} (g : GoodO N A O) (e : O = pre ++ w :: ws) : (thF N A pre (w :: ws) ++ [w]).filter (keep N A ws) = thF N A (pre ++ [w]) ws := by
  obtain ⟨h1, h2⟩ := g.bef _ _ _ e
  unfold thF
  rw [List.filter_append, List.filter_append, List.filter_filter]
  congr 1
  refine List.filter_congr fun u hu => ?_
  rw [keep_cons]
  cases keep N A ws u <;> simp
theorem sortI_filter {xs : List Int} (h : xs.Nodup) (p : Int → Bool) : (sortI xs).filter p = sortI (xs.filter p) := by
  refine strict_same ((sortI_strict h).sublist List.filter_sublist) (sortI_strict (h.sublist List.filter_sublist)) fun z => ?_
  rw [List.mem_filter, (sortI_perm _).mem_iff, (sortI_perm _).mem_iff, List.mem_filter]
theorem fault_do {N : List (List Int)} {rooms : Int} {S : List Int} {w : Int} (h1 : w ∉ S) (h2 : ∀ u ∈ nd N w, u ∈ S) (h3 : (S.length : Int) < rooms) : fault N rooms S "do" w = none := by
  unfold fault
  rw [if_neg (by decide), if_neg h1, if_neg, if_pos h3]
  unfold ready
  simp
  exact h2
theorem fault_clear {N : List (List Int)} {rooms : Int} {S : List Int} {w : Int} (h1 : w ∈ S) : fault N rooms S "clear" w = none := by
  unfold fault
  rw [if_pos rfl, if_pos h1]
theorem endP_clears {N : List (List Int)} {rooms : Int} : ∀ {G S : List Int}, G.Nodup → (∀ u ∈ G, u ∈ S) → endP N rooms S (G.map clr) = some (S.filter fun u => !decide (u ∈ G))
  | [], S, _, _ => by
    show some S = _
    congr 1
    symm
    rw [List.filter_eq_self]
    simp
  | g :: G, S, hn, hs => by
    rw [List.map_cons, endP, show (clr g).1 = "clear" from rfl, show (clr g).2 = g from rfl, fault_clear (hs g (by simp))]
    have hb : behindF S (clr g) = S.filter fun u => !decide (u = g) := by
      unfold behindF
      rw [if_neg (by show ¬ ("clear" : Str) = "do"; decide)]
      rfl
    obtain ⟨n1, n2⟩ := List.nodup_cons.mp hn
    simp only
    rw [hb, endP_clears n2 fun u hu => List.mem_filter.mpr ⟨hs u (by simp [hu]), by simp; rintro rfl; exact n1 hu⟩, List.filter_filter]
    congr 1
    refine List.filter_congr fun u hu => ?_
    by_cases c : u = g <;> by_cases c2 : u ∈ G <;> simp [c, c2]
theorem keep_nil {N : List (List Int)} {A : List Int} {u : Int} : keep N A [] u = decide (u ∈ A) := by simp [keep]
theorem plan_end' {N : List (List Int)} {A O : List Int} {rooms : Int} (hN : netOk N) (hr : (N.length : Int) ≤ rooms) (g : GoodO N A O) : ∀ (ws pre : List Int), O = pre ++ ws → endP N rooms (sortI (thF N A pre ws)) (planR N A ws) = some (sortI (thF N A O []))
  | [], pre, e => by
    rw [List.append_nil] at e
    subst e
    rfl
  | w :: ws, pre, e => by
    obtain ⟨h1, h2⟩ := g.bef _ _ _ e
    have hnp : (pre ++ [w]).Nodup := by
      have := g.nd
      rw [e, show pre ++ w :: ws = pre ++ [w] ++ ws by simp] at this
      exact (List.nodup_append.mp this).1
    have hp := List.nodup_append.mp hnp
    have hnt : (thF N A pre (w :: ws) ++ [w]).Nodup := by
      rw [List.nodup_append]
      exact ⟨hp.1.sublist List.filter_sublist, hp.2.1, fun a ha b hb => hp.2.2 a (List.mem_filter.mp ha).1 b hb⟩
    have hnt1 := (List.nodup_append.mp hnt).1
    have hwt : w ∉ thF N A pre (w :: ws) := fun z => (List.nodup_append.mp hnt).2.2 w z w (by simp) rfl
    have hlen : (thF N A pre (w :: ws)).length + 1 ≤ N.length := by
      have := nodup_len hnt (a := 0) (b := N.length) fun x hx => g.rng x (by
        rw [e]
        rcases List.mem_append.mp hx with hx | hx
        · exact List.mem_append_left _ (List.mem_filter.mp hx).1
        · simp at hx; subst hx; simp)
      simp at this
      omega
    rw [planR, endP, show fault N rooms (sortI (thF N A pre (w :: ws))) ("do", w).1 ("do", w).2 = none from fault_do (by rw [(sortI_perm _).mem_iff]; exact hwt) (fun u hu => by
      rw [(sortI_perm _).mem_iff]
      exact List.mem_filter.mpr ⟨h1 u hu, by rw [keep_cons]; simp [hu]⟩) (by rw [(sortI_perm _).length_eq]; omega)]
    simp only
    have hb : behindF (sortI (thF N A pre (w :: ws))) ("do", w) = sortI (thF N A pre (w :: ws) ++ [w]) := by
      unfold behindF
      rw [if_pos rfl]
      refine sortI_eq ?_ (sortI_sorted _)
      exact (sortI_perm _).trans ((sortI_perm _).append_right _)
    rw [hb, endP_append]
    have hg := gone_eq hN g e
    rw [endP_clears (by rw [← hg]; exact (List.Nodup.sublist List.filter_sublist ((sortI_perm _).nodup_iff.mpr hnt))) (fun u hu => by rw [← hg] at hu; exact (List.mem_filter.mp hu).1)]
    simp only [Option.bind_some]
    have hf : (sortI (thF N A pre (w :: ws) ++ [w])).filter (fun u => !decide (u ∈ goneR N A w ws)) = sortI (thF N A (pre ++ [w]) ws) := by
      rw [← th_next g e, ← sortI_filter hnt]
      refine List.filter_congr fun u hu => ?_
      rw [← hg]
      cases hk : keep N A ws u
      · simp [hk, hu]
      · simp [hk]
    rw [hf]
    exact plan_end' hN hr g ws (pre ++ [w]) (by rw [e]; simp)
theorem plan_end {N : List (List Int)} {A O : List Int} {rooms : Int} (hN : netOk N) (hr : (N.length : Int) ≤ rooms) (g : GoodO N A O) (hA : A.Pairwise (· < ·)) (hAO : ∀ a ∈ A, a ∈ O) : endP N rooms [] (planR N A O) = some A := by
  have := plan_end' hN hr g O [] rfl
  rw [show sortI (thF N A [] O) = [] from rfl] at this
  rw [this]
  congr 1
  refine strict_same (sortI_strict (g.nd.sublist List.filter_sublist)) hA fun z => ?_
  rw [(sortI_perm _).mem_iff]
  unfold thF
  rw [List.mem_filter, keep_nil, decide_eq_true_eq]
  exact ⟨fun h => h.2, fun h => ⟨hAO z h, h⟩⟩
theorem planR_moves {N : List (List Int)} {A : List Int} (hN : netOk N) : ∀ {O : List Int}, (∀ w ∈ O, 0 ≤ w ∧ w < N.length) → ∀ m ∈ planR N A O, (m.1 = "do" ∨ m.1 = "clear") ∧ 0 ≤ m.2 ∧ m.2 < N.length
  | [], _, m, hm => by simp [planR] at hm
  | w :: ws, h, m, hm => by
    rw [planR] at hm
    have hw := h w (by simp)
    rcases List.mem_cons.mp hm with rfl | hm
    · exact ⟨.inl rfl, hw⟩
    · rcases List.mem_append.mp hm with hm | hm
      · obtain ⟨u, hu, rfl⟩ := List.mem_map.mp hm
        have := (nd_ok hN hw.1 hw.2).2 u (mem_gone.mp hu).1
        exact ⟨.inr rfl, this.1, by show u < _; omega⟩
      · exact planR_moves hN (fun v hv => h v (by simp [hv])) m hm
theorem planR_len {N : List (List Int)} {A : List Int} (hN : netOk N) : ∀ {O : List Int}, (∀ w ∈ O, 0 ≤ w ∧ w < N.length) → (planR N A O).length ≤ O.length * (N.length + 1)
  | [], _ => by simp [planR]
  | w :: ws, h => by
    have hw := h w (by simp)
    have h1 := nd_ok hN hw.1 hw.2
    have h2 := sorted_len h1.1 h1.2
    have h3 : (goneR N A w ws).length ≤ (nd N w).length := List.length_filter_le _ _
    have ih := planR_len (A := A) (O := ws) hN fun v hv => h v (by simp [hv])
    rw [planR]
    simp only [List.length_cons, List.length_append, List.length_map, Nat.add_mul]
    omega
theorem need_good {N : List (List Int)} {A : List Int} (hN : netOk N) (hA : ∀ a ∈ A, 0 ≤ a ∧ a < N.length) : GoodO N A (need N A) := by
  refine ⟨List.nodup_iff_pairwise_ne.mpr ((need_sorted N A).imp fun h => by omega), fun w hw => ((mem_need hN hA).mp hw).range hN hA, fun pre w ws e => ?_⟩
  have hs := need_sorted N A
  rw [e, List.pairwise_append] at hs
  obtain ⟨hs1, hs2, hs3⟩ := hs
  have hs2 := (List.pairwise_cons.mp hs2).1
  have hw : w ∈ need N A := by rw [e]; simp
  have uw := (mem_need hN hA).mp hw
  have rw' := uw.range hN hA
  constructor
  · intro u hu
    have uu : u ∈ need N A := (mem_need hN hA).mpr (.need uw hu)
    have := (nd_ok hN rw'.1 rw'.2).2 u hu
    rw [e] at uu
    rcases List.mem_append.mp uu with h | h
    · exact h
    · rcases List.mem_cons.mp h with h | h
      · omega
      · have := hs2 u h; omega
  · rw [keep_iff]
    cases uw with
    | ask h => exact .inl h
    | @need v _ h k =>
      have hv : v ∈ need N A := (mem_need hN hA).mpr h
      have hr := h.range hN hA
      have := (nd_ok hN hr.1 hr.2).2 w k
      rw [e] at hv
      rcases List.mem_append.mp hv with h | h
      · have := hs3 v h w (by simp); omega
      · rcases List.mem_cons.mp h with h | h
        · omega
        · exact .inr ⟨v, h, k⟩
theorem need_asked {N : List (List Int)} {A : List Int} (hN : netOk N) (hA : ∀ a ∈ A, 0 ≤ a ∧ a < N.length) : ∀ a ∈ A, a ∈ need N A := fun a ha => (mem_need hN hA).mpr (.ask ha)
end Cm

namespace Cm
open PySem Fw L2
theorem zipIdx_split {α : Type} {O : List α} {pre post : List (α × Nat)} {p : α × Nat} (e : O.zipIdx = pre ++ p :: post) : ∃ O1 ws, O = O1 ++ p.1 :: ws ∧ p.2 = O1.length ∧ post = ws.zipIdx (p.2 + 1) ∧ pre = O1.zipIdx := by
  have h1 : O = pre.map (·.1) ++ p.1 :: post.map (·.1) := by
    have := congrArg (List.map (·.1)) e
    simpa using this
  refine ⟨pre.map (·.1), post.map (·.1), h1, ?_⟩
  have h2 : O.zipIdx = (pre.map (·.1)).zipIdx ++ (p.1, (pre.map (·.1)).length) :: (post.map (·.1)).zipIdx ((pre.map (·.1)).length + 1) := by
    conv => lhs; rw [h1]
    rw [List.zipIdx_append, List.zipIdx_cons, Nat.zero_add]
  rw [e] at h2
  obtain ⟨h3, h4⟩ := List.append_inj h2 (by simp)
  injection h4 with h5 h6
  have h7 : p.2 = (pre.map (·.1)).length := by rw [h5]
  exact ⟨h7, by rw [h7]; exact h6, h3⟩
def lastI (N : List (List Int)) : List (Int × Nat) → Int → Option Nat
  | [], _ => none
  | p :: ps, u => match lastI N ps u with
    | some j => some j
    | none => if u ∈ nd N p.1 then some p.2 else none
theorem lastI_append {N : List (List Int)} {q : Int × Nat} {u : Int} : ∀ {ps : List (Int × Nat)}, lastI N (ps ++ [q]) u = if u ∈ nd N q.1 then some q.2 else lastI N ps u
  | [] => by simp [lastI]
  | p :: ps => by
    rw [List.cons_append, lastI, lastI_append (ps := ps), lastI]
    by_cases c : u ∈ nd N q.1
    · simp [c]
    · simp [c]
theorem lastI_mid {N : List (List Int)} {q : Int × Nat} {u : Int} : ∀ {ps qs : List (Int × Nat)}, u ∈ nd N q.1 → lastI N (ps ++ q :: qs) u = some ((lastI N qs u).getD q.2)
  | [], qs, h => by
    rw [List.nil_append, lastI]
    cases lastI N qs u <;> simp [h]
  | p :: ps, qs, h => by
    rw [List.cons_append, lastI, lastI_mid (ps := ps) h]
theorem lastI_none {N : List (List Int)} {u : Int} : ∀ {ws : List Int} {k : Nat}, lastI N (ws.zipIdx k) u = none ↔ ∀ v ∈ ws, u ∉ nd N v
  | [], k => by simp [lastI]
  | w :: ws, k => by
    rw [List.zipIdx_cons, lastI]
    have ih := lastI_none (N := N) (u := u) (ws := ws) (k := k + 1)
    cases h : lastI N (ws.zipIdx (k + 1)) u with
    | none =>
      have := ih.mp h
      by_cases c : u ∈ nd N w
      · simp [c]
      · simp [c]; exact this
    | some j =>
      simp
      intro _
      have : ¬ ∀ v ∈ ws, u ∉ nd N v := fun z => by rw [ih.mpr z] at h; cases h
      simpa using this
theorem lastI_ge {N : List (List Int)} {u : Int} {j : Nat} : ∀ {ws : List Int} {k : Nat}, lastI N (ws.zipIdx k) u = some j → k ≤ j
  | [], k, h => by simp [lastI] at h
  | w :: ws, k, h => by
    rw [List.zipIdx_cons, lastI] at h
    cases h2 : lastI N (ws.zipIdx (k + 1)) u with
    | none => rw [h2] at h; simp at h; omega
    | some j' =>
      rw [h2] at h
      have := lastI_ge h2
      simp at h; omega
theorem plan_in_ok {N : List (List Int)} {A O : List Int} {st : RSt} (hN : netOk N) (hO : ∀ w ∈ O, 0 ≤ w ∧ w < N.length) (hl : N.length ≤ 1000) (hl2 : O.length ≤ 1000) : d_plan_in [netD N, tI A, .lst false (isD O)] st = .ok (.lst true ((planR N A O).map mvD)) st := by
  suffices hs : Rb (d_plan_in [netD N, tI A, .lst false (isD O)] st) fun d st' => d = .lst true ((planR N A O).map mvD) ∧ st' = st by
    obtain ⟨d, st', e, rfl, rfl⟩ := Rb_iff.mp hs
    exact e
  rw [d_plan_in]; refine Rb.of ?_
  unfold g_plan_in
  simp
  have hdl : ∀ m : List (Int × Int), (keysA m).Nodup → (∀ z ∈ keysA m, 0 ≤ z ∧ z < N.length) → m.length < sizeLine := fun m h1 h2 => by
    have := nodup_len h1 h2
    rw [keys_len] at this
    rw [sizeLine_eq]; omega
  refine ob_for (fun pre ρ => ∃ m : List (Int × Int), ρ = ⟨[.sh (netD N), .sh (tI A), .sh (.lst false (isD O)), .ow (dI .int true m), .no, .no, .no, .no], st⟩ ∧ (keysA m).Nodup ∧ (∀ z ∈ keysA m, 0 ≤ z ∧ z < N.length) ∧ ∀ u, getA m u = (lastI N pre u).map Int.ofNat) ?_ ?_ ?_
  · exact ⟨[], rfl, by simp, by simp, fun u => rfl⟩
  · rintro pre ⟨w, i⟩ post _ hx ⟨m, rfl, h1, h2, h3⟩
    refine ⟨_, rfl, ?_⟩
    obtain ⟨O1, ws, e1, e2, e3, e4⟩ := zipIdx_split hx
    have hw := hO w (by rw [e1]; simp)
    simp [ix_net hw.1 hw.2]
    refine ob_forL (fun pre2 ρ => ∃ m : List (Int × Int), ρ = ⟨[.sh (netD N), .sh (tI A), .sh (.lst false (isD O)), .ow (dI .int true m), .sh (.int i), .sh (.int w), .no, .no], st⟩ ∧ (keysA m).Nodup ∧ (∀ z ∈ keysA m, 0 ≤ z ∧ z < N.length) ∧ ∀ u, getA m u = if u ∈ pre2 then some (i : Int) else (lastI N pre u).map Int.ofNat) ?_ ?_ ?_
    · exact ⟨m, rfl, h1, h2, fun u => by simp [h3]⟩
    · rintro pre2 y post2 _ hy ⟨m, rfl, h1, h2, h3⟩
      refine ⟨_, rfl, ?_⟩
      have hy1 := (nd_ok hN hw.1 hw.2).2 y (by rw [hy]; simp)
      simp
      rw [stk_int (v := (i : Int)) .int h1 (hdl m h1 h2)]
      simp
      refine ⟨putA m y i, ⟨rfl, rfl⟩, nodup_put h1, fun z hz => ?_, fun u => ?_⟩
      · rcases mem_put.mp hz with rfl | hz
        · omega
        · exact h2 z hz
      · rw [getA_put, h3]
        by_cases c : y = u
        · subst c; simp
        · have c' : ¬ u = y := fun z => c z.symm
          simp [c, c']
    · rintro _ ⟨m, rfl, h1, h2, h3⟩
      simp
      refine ⟨m, ⟨rfl, rfl⟩, h1, h2, fun u => ?_⟩
      rw [h3, lastI_append]
      split <;> rfl
  · rintro _ ⟨m, rfl, h1, h2, h3⟩
    simp
    refine ob_for (fun pre ρ => ∃ P, ρ = ⟨[.sh (netD N), .sh (tI A), .sh (.lst false (isD O)), .ow (dI .int true m), .no, .no, .no, .ow (.lst true (P.map mvD))], st⟩ ∧ P.length ≤ pre.length * 1001 ∧ ∀ O1 ws, O = O1 ++ ws → O1.length = pre.length → planR N A O = P ++ planR N A ws) ?_ ?_ ?_
    · exact ⟨[], rfl, by simp, fun O1 ws e h => by
        have : O1 = [] := List.length_eq_zero_iff.mp h
        subst this
        rw [e]; rfl⟩
    · rintro pre ⟨w, i⟩ post _ hx ⟨P, rfl, hP, hp⟩
      refine ⟨_, rfl, ?_⟩
      obtain ⟨O1, ws, e1, e2, e3, e4⟩ := zipIdx_split hx
      have hw := hO w (by rw [e1]; simp)
      have hpl : pre.length ≤ 1000 := by
        have := congrArg List.length hx
        simp at this
        omega
      have hnn := nd_ok hN hw.1 hw.2
      have hnl := sorted_len hnn.1 hnn.2
      simp
      rw [moApp_i (by simp [sizeLine_eq]; omega)]
      simp [ix_net hw.1 hw.2]
      rw [lc_fm (fun u => !decide (u ∈ A) && ws.all fun v => !decide (u ∈ nd N v)) (fun u => mvD (clr u))]
      · have hgl : (goneR N A w ws).length ≤ (nd N w).length := List.length_filter_le _ _
        rw [show (nd N w).filter (fun u => !decide (u ∈ A) && ws.all fun v => !decide (u ∈ nd N v)) = goneR N A w ws from rfl]
        simp
        rw [moExt_l (by simp) (by simp [sizeLine_eq]; omega)]
        simp
        refine ⟨P ++ (("do" : Str), w) :: (goneR N A w ws).map clr, by simp [Function.comp_def], by simp; omega, fun O2 ws2 e5 h5 => ?_⟩
        have e6 : O2 = O1 ++ [w] ∧ ws2 = ws := by
          refine List.append_inj (e5.symm.trans (by rw [e1]; simp)) ?_
          rw [h5]
          have := congrArg List.length e4
          simp at this
          simp; omega
        rw [hp O1 (w :: ws) e1 (by rw [e4]; simp), e6.2, planR]
        simp
      · intro u hu
        have hk := lastI_mid (ps := pre) (qs := post) (q := (w, i)) hu
        rw [← hx] at hk
        have hg : getA m u = some (((lastI N post u).getD i : Nat) : Int) := by rw [h3, hk]; rfl
        have hix := opIxA_d (f := D.int) (o := true) hg (by simp)
        simp [hix]
        have hc : ((lastI N post u).getD i = i) ↔ (ws.all fun v => !decide (u ∈ nd N v)) = true := by
          rw [e3]
          cases hq : lastI N (ws.zipIdx (i + 1)) u with
          | none =>
            have := lastI_none.mp hq
            simp
            exact this
          | some j =>
            have hj := lastI_ge hq
            have : ¬ ∀ v ∈ ws, u ∉ nd N v := fun z => by rw [lastI_none.mpr z] at hq; cases hq
            simp at this ⊢
            constructor
            · intro h; omega
            · intro h; obtain ⟨v, hv, hv2⟩ := this; exact absurd hv2 (h v hv)
        by_cases c : (lastI N post u).getD i = i
        · have c2 := hc.mp c
          have c3 : ∀ v ∈ ws, ¬ u ∈ nd N v := by simpa using c2
          by_cases ca : u ∈ A
          · rw [if_neg (fun z => z.1 ca)]
            simp [c, ca]
          · rw [if_pos ⟨ca, c3⟩]
            simp [c, ca, clr]
        · have c2 : (ws.all fun v => !decide (u ∈ nd N v)) = false := by
            cases h : (ws.all fun v => !decide (u ∈ nd N v))
            · rfl
            · exact absurd (hc.mpr h) c
          rw [if_neg (fun z => by
            have : (ws.all fun v => !decide (u ∈ nd N v)) = true := by simpa using z.2
            rw [this] at c2; cases c2)]
          have c3 : ¬ (((lastI N post u).getD i : Nat) : Int) = (i : Int) := by omega
          simp [c3]
    · rintro _ ⟨P, rfl, hP, hp⟩
      have := hp O [] (by simp) (by simp)
      simp [planR] at this
      simp [this]
theorem plain_ok {N : List (List Int)} {A : List Int} {st : RSt} (hN : netOk N) (hA : ∀ a ∈ A, 0 ≤ a ∧ a < N.length) (hl : N.length ≤ 1000) : d_plain_plan [netD N, tI A] st = .ok (.lst true ((planR N A (need N A)).map mvD)) st := by
  have hnn := need_needs hN hA
  have hnl := sorted_len hnn.1 hnn.2
  rw [d_plain_plan, fnRes_eq]
  unfold g_plain_plan
  have e1 := all_needed_ok (N := N) (A := A) (st := st) hN hA (by omega)
  have e2 := plan_in_ok (N := N) (A := A) (O := need N A) (st := st) hN hnn.2 hl (by omega)
  simp [e1, e2]
end Cm

namespace Cm
open PySem Fw L2
def gi (xs : List Int) (w : Int) : Int := xs.getD w.toNat 0
def lvsA : List Int → List (List Int) → List Int
  | acc, [] => acc
  | acc, x :: xs => lvsA (acc ++ [maxI ((x.map fun n => gi acc n + 1) ++ [0])]) xs
def lvs (N : List (List Int)) : List Int := lvsA [] N
def lv (N : List (List Int)) (w : Int) : Int := gi (lvs N) w
def mergeA {α : Type} (a m : List (Int × α)) : List (Int × α) := m.foldl (fun a p => putA a p.1 p.2) a
theorem mergeD_A {α : Type} (f : α → D) : ∀ (m a : List (Int × α)), mergeD (m.map fun p => ((Sum.inl p.1 : Key), f p.2)) (a.map fun p => Sum.inl p.1) (a.map fun p => f p.2) = ((mergeA a m).map fun p => Sum.inl p.1, (mergeA a m).map fun p => f p.2)
  | [], a => rfl
  | p :: m, a => by
    rw [List.map_cons, mergeD, putKs_map a p.1 p.2, putXs_map, mergeD_A f m]
    rfl
theorem pairsD_A {α : Type} (f : α → D) : ∀ m : List (Int × α), pairsD (m.map fun p => .tup [.int p.1, f p.2]) = some (m.map fun p => ((Sum.inl p.1 : Key), f p.2))
  | [] => rfl
  | p :: m => by simp [pairsD, pairsD_A f m]
end Cm

namespace Cm
open PySem Fw L2
theorem idx_cons_ne {x u : Int} {xs : List Int} (h : x ≠ u) : (x :: xs).idxOf u = xs.idxOf u + 1 := by
  have : (x == u) = false := by simp [h]
  simp [List.idxOf_cons, this]
theorem idx_of {xs : List Int} {i : Nat} {u : Int} (hn : xs.Nodup) (h : xs[i]? = some u) : xs.idxOf u = i := by
  induction xs generalizing i with
  | nil => simp at h
  | cons x xs ih =>
    obtain ⟨n1, n2⟩ := List.nodup_cons.mp hn
    cases i with
    | zero => simp at h; subst h; simp
    | succ i =>
      simp at h
      have hm : u ∈ xs := List.mem_of_getElem? h
      have hne : x ≠ u := fun z => n1 (z ▸ hm)
      rw [idx_cons_ne hne, ih n2 h]
theorem idx_get {xs : List Int} {u : Int} (h : u ∈ xs) : xs[xs.idxOf u]? = some u := by
  induction xs with
  | nil => simp at h
  | cons x xs ih =>
    by_cases c : x = u
    · subst c; simp
    · rw [idx_cons_ne c]
      have hm : u ∈ xs := by
        rcases List.mem_cons.mp h with h | h
        · exact absurd h.symm c
        · exact h
      simpa using ih hm
theorem idx_lt {xs : List Int} {u : Int} (h : u ∈ xs) : xs.idxOf u < xs.length := (List.getElem?_eq_some_iff.mp (idx_get h)).1
theorem idx_mono {xs : List Int} {u v : Int} (hs : xs.Pairwise (· < ·)) (hu : u ∈ xs) (hv : v ∈ xs) (h : u < v) : xs.idxOf u < xs.idxOf v := by
  rcases Nat.lt_trichotomy (xs.idxOf u) (xs.idxOf v) with c | c | c
  · exact c
  · have := idx_get hu
    rw [c, idx_get hv] at this
    cases this
    omega
  · obtain ⟨h1, e1⟩ := List.getElem?_eq_some_iff.mp (idx_get hu)
    obtain ⟨h2, e2⟩ := List.getElem?_eq_some_iff.mp (idx_get hv)
    have := List.pairwise_iff_getElem.mp hs _ _ h2 h1 c
    omega
theorem sorted_nodup {xs : List Int} (h : xs.Pairwise (· < ·)) : xs.Nodup := List.nodup_iff_pairwise_ne.mpr (h.imp fun h => by omega)
def pos (W : List Int) (u : Int) : Int := (W.idxOf u : Nat)
def partR (N : List (List Int)) (W : List Int) (w : Int) : List Int := ((nd N w).filter fun u => decide (u ∈ W)).map (pos W)
def partF (N : List (List Int)) (W : List Int) : List (List Int) := W.map (partR N W)
theorem partF_len (N : List (List Int)) (W : List Int) : (partF N W).length = W.length := by simp [partF]
theorem partR_needs {N : List (List Int)} {W : List Int} {w : Int} (hN : netOk N) (hW : needsOk N.length W) (hw : w ∈ W) : needsOk (pos W w) (partR N W w) := by
  have hr := hW.2 w hw
  have hn := nd_ok hN hr.1 hr.2
  constructor
  · unfold partR
    rw [List.pairwise_map]
    refine List.Pairwise.imp_of_mem ?_ (hn.1.sublist List.filter_sublist)
    intro a b ha hb h
    rw [List.mem_filter, decide_eq_true_eq] at ha hb
    have := idx_mono hW.1 ha.2 hb.2 h
    show ((W.idxOf a : Nat) : Int) < ((W.idxOf b : Nat) : Int)
    omega
  · intro x hx
    obtain ⟨u, hu, rfl⟩ := List.mem_map.mp hx
    rw [List.mem_filter, decide_eq_true_eq] at hu
    have := idx_mono hW.1 hu.2 hw (hn.2 u hu.1).2
    show 0 ≤ ((W.idxOf u : Nat) : Int) ∧ ((W.idxOf u : Nat) : Int) < ((W.idxOf w : Nat) : Int)
    omega
theorem pos_get {W : List Int} {i : Nat} {w : Int} (hs : W.Pairwise (· < ·)) (h : W[i]? = some w) : pos W w = i := by
  unfold pos
  rw [idx_of (sorted_nodup hs) h]
theorem partF_ok {N : List (List Int)} {W : List Int} (hN : netOk N) (hW : needsOk N.length W) : netOk (partF N W) := by
  intro i xs e
  unfold partF at e
  rw [List.getElem?_map] at e
  obtain ⟨w, hw, rfl⟩ := Option.map_eq_some_iff.mp e
  have := partR_needs hN hW (List.mem_of_getElem? hw)
  rwa [pos_get hW.1 hw] at this
theorem gi_get {W : List Int} {v : Int} (h0 : 0 ≤ v) (h1 : v < W.length) : W[v.toNat]? = some (gi W v) := by
  unfold gi
  rw [List.getD_eq_getElem?_getD, List.getElem?_eq_getElem (by omega)]
  rfl
theorem nd_part {N : List (List Int)} {W : List Int} {v : Int} (h0 : 0 ≤ v) (h1 : v < W.length) : nd (partF N W) v = partR N W (gi W v) := by
  unfold nd
  rw [List.getD_eq_getElem?_getD]
  unfold partF
  rw [List.getElem?_map, gi_get h0 h1]
  rfl
theorem pos_gi {W : List Int} {v : Int} (hs : W.Pairwise (· < ·)) (h0 : 0 ≤ v) (h1 : v < W.length) : pos W (gi W v) = v := by
  rw [pos_get hs (gi_get h0 h1)]; omega
theorem gi_mem {W : List Int} {v : Int} (h0 : 0 ≤ v) (h1 : v < W.length) : gi W v ∈ W := List.mem_of_getElem? (gi_get h0 h1)
theorem gi_pos {W : List Int} {u : Int} (h : u ∈ W) : gi W (pos W u) = u := by
  have h1 := gi_get (W := W) (v := pos W u) (by unfold pos; omega) (by have := idx_lt h; unfold pos; omega)
  rw [show (pos W u).toNat = W.idxOf u by unfold pos; omega, idx_get h] at h1
  exact (Option.some.inj h1).symm
theorem pos_rng {W : List Int} {u : Int} (h : u ∈ W) : 0 ≤ pos W u ∧ pos W u < W.length := by
  have := idx_lt h; unfold pos; omega
theorem gi_mono {W : List Int} {u v : Int} (hs : W.Pairwise (· < ·)) (h0 : 0 ≤ u) (h : u < v) (h1 : v < W.length) : gi W u < gi W v := by
  obtain ⟨a1, e1⟩ := List.getElem?_eq_some_iff.mp (gi_get h0 (by omega : u < W.length))
  obtain ⟨a2, e2⟩ := List.getElem?_eq_some_iff.mp (gi_get (by omega) h1)
  have := List.pairwise_iff_getElem.mp hs _ _ a1 a2 (by omega)
  omega
end Cm

namespace Cm
open PySem Fw L2
def shift (k : Int) (M : List (List Int)) : List (List Int) := M.map fun xs => xs.map (· + k)
def bes (N M : List (List Int)) : List (List Int) := N ++ shift N.length M
theorem put_ok {N M : List (List Int)} {st : RSt} (hl : N.length ≤ 1000) (hl2 : M.length ≤ 1000) : d_law_put [netD N, netD M] st = .ok (netD (bes N M)) st := by
  suffices hs : Rb (d_law_put [netD N, netD M] st) fun d st' => d = netD (bes N M) ∧ st' = st by
    obtain ⟨d, st', e, rfl, rfl⟩ := Rb_iff.mp hs
    exact e
  rw [d_law_put]; refine Rb.of ?_
  unfold g_law_put
  simp
  refine ob_for (fun pre ρ => ρ = ⟨[.sh (netD N), .sh (netD M), .ow (.lst true ((N ++ shift N.length pre).map tI)), .no, .no], st⟩) (by simp [shift]) ?_ ?_
  · rintro pre xs post _ hx rfl
    refine ⟨⟨[.sh (netD N), .sh (netD M), .ow (.lst true ((N ++ shift N.length pre).map tI)), .sh (tI xs), .no], st⟩, by simp, ?_⟩
    have hlen := congrArg List.length hx
    simp at hlen
    simp
    rw [lc_map (fun x => D.int (x + (N.length : Int)))]
    · simp
      rw [moApp_i (by simp [sizeLine_eq, shift]; omega)]
      simp [shift, Function.comp_def]
    · intro x hx
      simp
  · rintro _ rfl
    simp [bes]
end Cm

namespace Cm
open PySem Fw L2
def clrB (s w : Nat) : Nat := s - 2 ^ w * (s / 2 ^ w &&& 1)
def mor (s w : Nat) : Nat := s ||| 2 ^ w
def cntO (n s : Nat) : Nat := ((List.range n).map fun w => s / 2 ^ w &&& 1).sum
def mskL (xs : List Int) : Nat := (xs.map fun x => 2 ^ x.toNat).sum
def msk (N : List (List Int)) (w : Nat) : Nat := mskL (N.getD w [])
inductive RchO (N : List (List Int)) (rooms : Int) : Nat → Prop
  | z : RchO N rooms 0
  | c {s w : Nat} : RchO N rooms s → w < N.length → RchO N rooms (clrB s w)
  | d {s w : Nat} : RchO N rooms s → w < N.length → (cntO N.length s : Int) < rooms → s &&& msk N w = msk N w → RchO N rooms (mor s w)
theorem clrB_le (s w : Nat) : clrB s w ≤ s := Nat.sub_le _ _
theorem mor_lt {n s w : Nat} (h : s < 2 ^ n) (hw : w < n) : mor s w < 2 ^ n := Nat.or_lt_two_pow h (Nat.pow_lt_pow_right (by decide) hw)
theorem RchO.lt {N : List (List Int)} {rooms : Int} {s : Nat} (h : RchO N rooms s) : s < 2 ^ N.length := by
  induction h with
  | z => exact Nat.two_pow_pos _
  | c h hw ih => exact Nat.lt_of_le_of_lt (clrB_le _ _) ih
  | d h hw _ _ ih => exact mor_lt ih hw
def grow (N : List (List Int)) (rooms : Nat) : Nat → List Nat → Nat → Nat
  | 0, _, S => S
  | _, [], S => S
  | k + 1, s :: ss, S =>
    let ms := ((List.range N.length).map (clrB s)) ++ (if cntO N.length s < rooms then ((List.range N.length).filter fun w => s &&& msk N w == msk N w).map (mor s) else [])
    let p := ms.foldl (fun (p : List Nat × Nat) t => if p.2.testBit t then p else (t :: p.1, p.2 ||| 2 ^ t)) (ss, S)
    grow N rooms k p.1 p.2
structure Small (N : List (List Int)) (due : Nat) : Prop where
  p0 : 0 < N.length
  p1 : N.length ≤ 10
  d0 : 1 ≤ due
  d1 : due ≤ 10
  ok : netOk N
  us : ∀ w : Nat, w < N.length - 1 → ∃ xs ∈ N, (w : Int) ∈ xs
  way : ∃ e, RchO N due e ∧ e &&& 2 ^ (N.length - 1) = 2 ^ (N.length - 1)
  no : ∀ (r : Int) e, r < due → RchO N r e → e &&& 2 ^ (N.length - 1) ≠ 2 ^ (N.length - 1)
theorem Small.und {N : List (List Int)} {due : Nat} (h : Small N due) : ∀ w : Int, 0 ≤ w → w < N.length → Und N [(N.length : Int) - 1] w := by
  have key : ∀ (k w : Nat), w < N.length → N.length - w ≤ k → Und N [(N.length : Int) - 1] (w : Int) := by
    intro k
    induction k with
    | zero => intro w h1 h2; omega
    | succ k ih =>
      intro w h1 h2
      by_cases c : w = N.length - 1
      · exact .ask (by rw [c]; simp; have := h.p0; omega)
      · obtain ⟨xs, hx, hm⟩ := h.us w (by omega)
        obtain ⟨i, hi, rfl⟩ := List.mem_iff_getElem.mp hx
        have hb := (h.ok i _ (List.getElem?_eq_getElem hi)).2 _ hm
        refine .need (u := (i : Int)) (ih i hi (by omega)) ?_
        show _ ∈ nd N i
        rw [nd]
        rw [List.getD_eq_getElem?_getD, show ((i : Int)).toNat = i by omega, List.getElem?_eq_getElem hi]
        exact hm
  intro w h0 h1
  have := key N.length w.toNat (by omega) (by omega)
  rwa [show ((w.toNat : Nat) : Int) = w by omega] at this
end Cm

namespace Cm
open PySem Fw L2
theorem behind_needs {n : Int} {S : List Int} {m : Mv} (h : needsOk n S) (h0 : 0 ≤ m.2) (h1 : m.2 < n) (h2 : m.1 = "do" → m.2 ∉ S) : needsOk n (behindF S m) := by
  unfold behindF
  split
  · rename_i e
    refine ⟨sortI_strict ?_, fun x hx => ?_⟩
    · rw [List.nodup_append]
      refine ⟨List.nodup_iff_pairwise_ne.mpr (h.1.imp fun h => by omega), by simp, fun a ha b hb => ?_⟩
      simp at hb
      subst hb
      rintro rfl
      exact h2 e ha
    · have := (sortI_perm _).mem_iff.mp hx
      rcases List.mem_append.mp this with z | z
      · exact h.2 x z
      · simp at z; subst z; exact ⟨h0, h1⟩
  · exact ⟨h.1.sublist List.filter_sublist, fun x hx => h.2 x (List.mem_filter.mp hx).1⟩
theorem behind_len {S : List Int} {m : Mv} : (behindF S m).length ≤ S.length + 1 := by
  unfold behindF
  split
  · rw [(sortI_perm _).length_eq]; simp
  · have := List.length_filter_le (fun w => !decide (w = m.2)) S
    omega
def MvOk (N : List (List Int)) (ms : List Mv) : Prop := ∀ m ∈ ms, (m.1 = "do" ∨ m.1 = "clear") ∧ 0 ≤ m.2 ∧ m.2 < N.length
theorem MvOk.append {N : List (List Int)} {a b : List Mv} (h : MvOk N a) (k : MvOk N b) : MvOk N (a ++ b) := fun m hm => by
  rcases List.mem_append.mp hm with z | z
  · exact h m z
  · exact k m z
theorem MvOk.sub {N : List (List Int)} {a b : List Mv} (h : MvOk N a) (k : ∀ m ∈ b, m ∈ a) : MvOk N b := fun m hm => h m (k m hm)
theorem fault_len {N : List (List Int)} {rooms : Int} {S : List Int} {w : Str} {u : Int} {x : Str} (h : fault N rooms S w u = some x) : x.length ≤ 1000 := by
  unfold fault at h
  repeat (split at h <;> try (cases h <;> decide))
theorem stand_behind_ok {S : List Int} {m : Mv} {st : RSt} (hS : S.length < 1000000) : d_stand_behind [tI S, mvD m] st = .ok (tI (behindF S m)) st := by
  obtain ⟨word, w⟩ := m
  rw [d_stand_behind, fnRes_eq]
  unfold g_stand_behind
  by_cases c : word = ("do" : Str)
  · subst c
    simp [behindF]
    rw [opAdd_t (by simp) (by simp) (by rw [sizeLine_eq]; simp; omega)]
    have h2 : opSort [.tup (S.map .int ++ [.int w])] = some (.lst true ((sortI (S ++ [w])).map .int)) := by simpa using opSort_t (S ++ [w])
    simp [h2]
  · simp [behindF, c]
    rw [lc_fm (fun u => !decide (u = w)) (fun u => D.int u)]
    · simp
    · intro u hu
      by_cases cu : u = w <;> simp [cu]
theorem moved_ok {N : List (List Int)} {rooms : Int} {S : List Int} {m : Mv} {st : RSt} (h0 : 0 ≤ m.2) (h1 : m.2 < N.length) (hS : S.length < 1000000) : d_moved [netD N, .int rooms, tI S, mvD m] st = match fault N rooms S m.1 m.2 with | none => .ok (tI (behindF S m)) st | some w => .ex (exB 0 w) st := by
  rw [d_moved, fnRes_eq]
  unfold g_moved
  obtain ⟨word, w⟩ := m
  have ef := fault_ok (N := N) (rooms := rooms) (S := S) (word := word) (w := w) (st := st) h0 h1
  have eb := stand_behind_ok (S := S) (m := (word, w)) (st := st) hS
  cases hf : fault N rooms S word w with
  | none =>
    rw [hf] at ef
    simp [hf, ef, eb, optD, opNoN]
  | some x =>
    rw [hf] at ef
    simp [hf, ef, optD, opNoN]
    rw [rx_bar (by decide) (by decide) (fault_len hf)]
    simp
theorem played_loop {N : List (List Int)} {rooms : Int} {ms0 : D} {st : RSt} : ∀ (ms : List Mv) (k : Nat) (T : List (List Int)) (S : List Int), (∀ m ∈ ms, 0 ≤ m.2 ∧ m.2 < N.length) → T.length + ms.length < 900000 → k + ms.length < 900000 → S.length + ms.length < 900000 →
    (runP N rooms S ms).2 = none ∧ forL (tgT [4, 5]) (sqS (sAs 6 (evCall Cm.d_fault_of [(.var 0), (.var 1), (.val (evOp [(.var 3), (.val (evOp [(.val (evC (.int 1)))] opNeg))] opIxA)), (.var 5)])) (sqS (sIf (evTOp [(.var 6), (.val (evC .non))] opNoN) (sRaiseX "Barred" fdBar [(.var 4), (.var 6)]) nxS) (sMe1 moApp 3 (evCall Cm.d_moved [(.var 0), (.var 1), (.val (evOp [(.var 3), (.val (evOp [(.val (evC (.int 1)))] opNeg))] opIxA)), (.var 5)])))) [4, 5, 6] ((ms.zipIdx k).map fun p => .tup [.int (p.2 : Nat), mvD p.1]) ⟨[.sh (netD N), .sh (.int rooms), .sh ms0, .ow (.lst true ((T ++ [S]).map tI)), .no, .no, .no], st⟩
        = .ok .nx ⟨[.sh (netD N), .sh (.int rooms), .sh ms0, .ow (.lst true ((T ++ S :: (runP N rooms S ms).1).map tI)), .no, .no, .no], st⟩ ∨
    ∃ w vs, (runP N rooms S ms).2 = some w ∧ forL (tgT [4, 5]) (sqS (sAs 6 (evCall Cm.d_fault_of [(.var 0), (.var 1), (.val (evOp [(.var 3), (.val (evOp [(.val (evC (.int 1)))] opNeg))] opIxA)), (.var 5)])) (sqS (sIf (evTOp [(.var 6), (.val (evC .non))] opNoN) (sRaiseX "Barred" fdBar [(.var 4), (.var 6)]) nxS) (sMe1 moApp 3 (evCall Cm.d_moved [(.var 0), (.var 1), (.val (evOp [(.var 3), (.val (evOp [(.val (evC (.int 1)))] opNeg))] opIxA)), (.var 5)])))) [4, 5, 6] ((ms.zipIdx k).map fun p => .tup [.int (p.2 : Nat), mvD p.1]) ⟨[.sh (netD N), .sh (.int rooms), .sh ms0, .ow (.lst true ((T ++ [S]).map tI)), .no, .no, .no], st⟩
        = .ex (exB (k + (runP N rooms S ms).1.length : Nat) w) ⟨vs, st⟩
  | [], k, T, S, _, _, _, _ => .inl ⟨rfl, by simp [runP]⟩
  | (word, w) :: ms, k, T, S, hm, hT, hk, hS => by
    have hm' := hm (word, w) List.mem_cons_self
    simp at hT hk hS
    have ef := fault_ok (N := N) (rooms := rooms) (S := S) (word := word) (w := w) (st := st) hm'.1 hm'.2
    have em := moved_ok (N := N) (rooms := rooms) (S := S) (m := (word, w)) (st := st) hm'.1 hm'.2 (by omega)
    have el : atI (List.map tI T ++ [tI S]) (-1) = some (tI S) := atI_last
    simp only [tI, isD] at el
    rw [runP]
    cases hf : fault N rooms S word w with
    | none =>
      rw [hf] at ef
      simp only [hf] at em
      have hb := behind_len (S := S) (m := (word, w))
      have ih := played_loop (rooms := rooms) (ms0 := ms0) (st := st) ms (k + 1) (T ++ [S]) (behindF S (word, w)) (fun m h => hm m (List.mem_cons_of_mem _ h)) (by simp; omega) (by omega) (by omega)
      have step : ∀ (zs : List D) (Y : Out Fl), (forL (tgT [4, 5]) (sqS (sAs 6 (evCall Cm.d_fault_of [(.var 0), (.var 1), (.val (evOp [(.var 3), (.val (evOp [(.val (evC (.int 1)))] opNeg))] opIxA)), (.var 5)])) (sqS (sIf (evTOp [(.var 6), (.val (evC .non))] opNoN) (sRaiseX "Barred" fdBar [(.var 4), (.var 6)]) nxS) (sMe1 moApp 3 (evCall Cm.d_moved [(.var 0), (.var 1), (.val (evOp [(.var 3), (.val (evOp [(.val (evC (.int 1)))] opNeg))] opIxA)), (.var 5)])))) [4, 5, 6] zs ⟨[.sh (netD N), .sh (.int rooms), .sh ms0, .ow (.lst true ((T ++ [S] ++ [behindF S (word, w)]).map tI)), .no, .no, .no], st⟩ = Y) →
          forL (tgT [4, 5]) (sqS (sAs 6 (evCall Cm.d_fault_of [(.var 0), (.var 1), (.val (evOp [(.var 3), (.val (evOp [(.val (evC (.int 1)))] opNeg))] opIxA)), (.var 5)])) (sqS (sIf (evTOp [(.var 6), (.val (evC .non))] opNoN) (sRaiseX "Barred" fdBar [(.var 4), (.var 6)]) nxS) (sMe1 moApp 3 (evCall Cm.d_moved [(.var 0), (.var 1), (.val (evOp [(.var 3), (.val (evOp [(.val (evC (.int 1)))] opNeg))] opIxA)), (.var 5)])))) [4, 5, 6] (.tup [.int (k : Nat), mvD (word, w)] :: zs) ⟨[.sh (netD N), .sh (.int rooms), .sh ms0, .ow (.lst true ((T ++ [S]).map tI)), .no, .no, .no], st⟩ = Y := by
        rintro zs Y rfl
        rw [forL_cons]
        simp [el, ef, optD, opNoN, em]
        rw [moApp_i (by simp [sizeLine_eq]; omega)]
        simp
      simp only [hf]
      rcases ih with ⟨i1, i2⟩ | ⟨x, vs, i1, i2⟩
      · refine .inl ⟨i1, ?_⟩
        rw [List.zipIdx_cons, List.map_cons]
        refine step _ _ ?_
        rw [i2]
        simp
      · refine .inr ⟨x, vs, i1, ?_⟩
        rw [List.zipIdx_cons, List.map_cons]
        refine step _ _ ?_
        rw [i2]
        simp only [List.length_cons]
        congr 2
        omega
    | some x =>
      rw [hf] at ef
      refine .inr ⟨x, [.sh (netD N), .sh (.int rooms), .sh ms0, .ow (.lst true ((T ++ [S]).map tI)), .sh (.int k), .sh (mvD (word, w)), .sh (.str x)], rfl, ?_⟩
      rw [List.zipIdx_cons, List.map_cons, forL_cons]
      simp [el, ef, optD, opNoN]
      rw [rx_bar (by omega) (by omega) (fault_len hf)]
      simp
theorem prog_played_ok {N : List (List Int)} {rooms : Int} {ms : List Mv} {o : Bool} {st : RSt} (hm : ∀ m ∈ ms, 0 ≤ m.2 ∧ m.2 < N.length) (hl : ms.length < 900000) : d_played [netD N, .int rooms, .lst false (ms.map mvD)] st = match (runP N rooms [] ms).2 with | none => .ok (.lst true (([] :: (runP N rooms [] ms).1).map tI)) st | some w => .ex (exB ((runP N rooms [] ms).1.length : Nat) w) st := by
  rw [d_played, fnRes_eq]
  unfold g_played
  simp
  have h := played_loop (N := N) (rooms := rooms) (ms0 := .lst false (ms.map mvD)) (st := st) ms 0 [] [] hm (by simp; omega) (by omega) (by simp; omega)
  simp only [List.nil_append, List.map_cons, List.map_nil, Nat.zero_add, show (tI [] : D) = .tup [] from rfl] at h
  rcases h with ⟨h1, h2⟩ | ⟨w, vs, h1, h2⟩
  · simp [h1, h2]
  · simp [h1, h2]
end Cm

namespace Cm
open PySem Fw L2
theorem addB : ∀ (p x : Nat), x.testBit p = false → x + 2 ^ p = x ||| 2 ^ p
  | 0, x, h => by
    rw [Nat.testBit_zero] at h
    have h : x % 2 = 0 := by simpa using h
    have e1 : (x ||| 2 ^ 0) / 2 = x / 2 := by
      rw [Nat.or_div_two]
      simp
    have e2 : (x ||| 2 ^ 0) % 2 = 1 := by
      rw [Nat.or_mod_two_eq_one]
      exact .inr rfl
    have := Nat.div_add_mod (x ||| 2 ^ 0) 2
    rw [e1, e2] at this
    have := Nat.div_add_mod x 2
    rw [Nat.pow_zero] at *
    omega
  | p + 1, x, h => by
    rw [Nat.testBit_succ] at h
    have ih := addB p (x / 2) h
    have e1 : (x ||| 2 ^ (p + 1)) / 2 = x / 2 ||| 2 ^ p := by
      rw [Nat.or_div_two]
      congr 1
      rw [Nat.pow_succ]
      omega
    have e2 : (x ||| 2 ^ (p + 1)) % 2 = x % 2 := by
      have z : 2 ^ (p + 1) % 2 = 0 := by rw [Nat.pow_succ]; omega
      have hx : x % 2 = 0 ∨ x % 2 = 1 := by omega
      rcases hx with hx | hx
      · have : ¬ (x ||| 2 ^ (p + 1)) % 2 = 1 := by
          rw [Nat.or_mod_two_eq_one]
          omega
        omega
      · have : (x ||| 2 ^ (p + 1)) % 2 = 1 := by
          rw [Nat.or_mod_two_eq_one]
          exact .inl hx
        omega
    have h1 := Nat.div_add_mod (x ||| 2 ^ (p + 1)) 2
    rw [e1, e2, ← ih] at h1
    have h2 := Nat.div_add_mod x 2
    have h3 : 2 ^ (p + 1) = 2 * 2 ^ p := by rw [Nat.pow_succ]; omega
    omega
def onB (n b : Nat) : List Nat := (List.range n).filter fun p => b.testBit p
def nbB (xs : List Int) : Nat := xs.foldr (fun u b => 2 ^ u.toNat ||| b) 0
theorem nbB_bit {xs : List Int} {p : Nat} (h : ∀ u ∈ xs, 0 ≤ u) : (nbB xs).testBit p = decide ((p : Int) ∈ xs) := by
  induction xs with
  | nil => simp [nbB]
  | cons u xs ih =>
    have e : nbB (u :: xs) = 2 ^ u.toNat ||| nbB xs := rfl
    have hu := h u List.mem_cons_self
    rw [e, Nat.testBit_or, Nat.testBit_two_pow, ih fun v hv => h v (List.mem_cons_of_mem _ hv)]
    by_cases c : u.toNat = p
    · have : (p : Int) = u := by omega
      simp [c, this]
    · have : ¬ (p : Int) = u := by omega
      simp [c, this]
theorem sub_bits {a b : Nat} : a &&& b = b ↔ ∀ p, b.testBit p = true → a.testBit p = true := by
  constructor
  · intro h p hp
    have := congrArg (fun x => Nat.testBit x p) h
    simp only [Nat.testBit_and, hp, Bool.and_true] at this
    exact this
  · intro h
    refine Nat.eq_of_testBit_eq fun p => ?_
    rw [Nat.testBit_and]
    cases hb : b.testBit p with
    | true => rw [h p hb]; rfl
    | false => simp
theorem filter_drop1 {xs : List Nat} {q q' : Nat → Bool} {p : Nat} (hn : xs.Nodup) (hp : p ∈ xs) (h1 : q p = true) (h2 : q' p = false) (h : ∀ x ∈ xs, x ≠ p → q' x = q x) : (xs.filter q').length + 1 = (xs.filter q).length := by
  induction xs with
  | nil => cases hp
  | cons x xs ih =>
    obtain ⟨n1, n2⟩ := List.nodup_cons.mp hn
    by_cases c : x = p
    · subst c
      have : xs.filter q' = xs.filter q := List.filter_congr fun y hy => h y (List.mem_cons_of_mem _ hy) (by rintro rfl; exact n1 hy)
      simp [h1, h2, this]
    · have hp' : p ∈ xs := by
        rcases List.mem_cons.mp hp with e | e
        · exact absurd e.symm c
        · exact e
      have := ih n2 hp' fun y hy => h y (List.mem_cons_of_mem _ hy)
      rw [List.filter_cons, List.filter_cons, h x List.mem_cons_self c]
      split <;> simp_all <;> omega
theorem onB_clear {n b p : Nat} (hp : p < n) (h : b.testBit p = true) : (onB n (b ^^^ 2 ^ p)).length + 1 = (onB n b).length := by
  refine filter_drop1 List.nodup_range (List.mem_range.mpr hp) h ?_ fun x hx hne => ?_
  · rw [Nat.testBit_xor, Nat.testBit_two_pow]; simp [h]
  · rw [Nat.testBit_xor, Nat.testBit_two_pow]
    simp [Ne.symm hne]
theorem onB_do {n b p : Nat} (hp : p < n) (h : b.testBit p = false) : (onB n (b ||| 2 ^ p)).length = (onB n b).length + 1 := by
  refine (filter_drop1 List.nodup_range (List.mem_range.mpr hp) ?_ h fun x hx hne => ?_).symm
  · rw [Nat.testBit_or, Nat.testBit_two_pow]; simp
  · rw [Nat.testBit_or, Nat.testBit_two_pow]
    simp [Ne.symm hne]
theorem bit_lt {n b p : Nat} (h : b < 2 ^ n) (hp : b.testBit p = true) : p < n := by
  refine Nat.lt_of_not_le fun z => ?_
  have := Nat.testBit_lt_two_pow (Nat.lt_of_lt_of_le h (Nat.pow_le_pow_right (by decide) z))
  rw [this] at hp; cases hp
theorem onB_zero (n : Nat) : onB n 0 = [] := by simp [onB]
theorem clear_lt {n b p : Nat} (h : b < 2 ^ n) (hp : b.testBit p = true) : b ^^^ 2 ^ p < 2 ^ n := Nat.xor_lt_two_pow h (Nat.pow_lt_pow_right (by decide) (bit_lt h hp))
theorem do_lt {n b p : Nat} (h : b < 2 ^ n) (hp : p < n) : b ||| 2 ^ p < 2 ^ n := Nat.or_lt_two_pow h (Nat.pow_lt_pow_right (by decide) hp)
end Cm

namespace Cm
open PySem Fw L2
def MvW (ms : List Mv) : Prop := ∀ m ∈ ms, m.1 = ("do" : Str) ∨ m.1 = ("clear" : Str)
theorem MvW.ok {ms : List Mv} (h : MvW ms) : ∀ m ∈ ms, PyData.strOk m.1 = true := fun m hm => by
  rcases h m hm with e | e <;> rw [e] <;> decide +kernel
variable {N : List (List Int)} {rooms : Int} {ms : List Mv} {st : RSt}
end Cm

namespace Cm
open PySem Fw L2
def Way (c : En → Out Bool) (body : En → Out Fl) (fg : List Nat) (k : Nat) (ρ ρ' : En) : Prop := ∀ n Q, Ob (whL c body fg n ρ') Q → Ob (whL c body fg (n + k) ρ) Q
theorem Way.refl {c : En → Out Bool} {body : En → Out Fl} {fg : List Nat} {ρ : En} : Way c body fg 0 ρ ρ := fun _ _ h => h
theorem Way.trans {c : En → Out Bool} {body : En → Out Fl} {fg : List Nat} {ρ ρ1 ρ2 : En} {k k2 : Nat} (h : Way c body fg k ρ ρ1) (h2 : Way c body fg k2 ρ1 ρ2) : Way c body fg (k + k2) ρ ρ2 := fun n Q q => by
  have := h (n + k2) Q (h2 n Q q)
  rwa [show n + k2 + k = n + (k + k2) by omega] at this
theorem Way.one {c : En → Out Bool} {body : En → Out Fl} {fg : List Nat} {ρ ρ' : En} (h : Ob (c ρ) fun b ρ1 => b = true ∧ Ob (body ρ1) fun fl ρ2 => (fl = .nx ∨ fl = .ct) ∧ (⟨fgt ρ2.vs fg, ρ2.st⟩ : En) = ρ') : Way c body fg 1 ρ ρ' := fun n Q q => by
  obtain ⟨b, ρ1, e1, rfl, h1⟩ := Ob_iff.mp h
  obtain ⟨fl, ρ2, e2, hf, rfl⟩ := Ob_iff.mp h1
  rw [whL, e1]
  simp only [Out.bind]
  rw [if_pos trivial, e2]
  rcases hf with rfl | rfl <;> exact q
theorem Way.end {c : En → Out Bool} {body : En → Out Fl} {fg : List Nat} {ρ ρ' : En} {k n : Nat} {Q : Fl → En → Prop} (w : Way c body fg k ρ ρ') (hk : k < n) (hc : Ob (c ρ') fun b ρ1 => b = false ∧ Q .nx ρ1) : Ob (whL c body fg n ρ) Q := by
  have := w (n - k) Q (by
    obtain ⟨m, hm⟩ : ∃ m, n - k = m + 1 := ⟨n - k - 1, by omega⟩
    obtain ⟨b, ρ1, e1, rfl, h1⟩ := Ob_iff.mp hc
    rw [hm, whL, e1]
    simp only [Out.bind]
    first | rw [if_neg (by simp), Ob_ok] | rw [Ob_ok]
    exact h1)
  rwa [show n - k + k = n by omega] at this
def ordP (N : List (List Int)) (R : List Int) (w : Int) : List (Int × Int) := sortP (((nd N w).filter fun u => decide (u ∉ R)).map fun u => (-lv N u, u))
def ordN (N : List (List Int)) (R : List Int) (w : Int) : List Int := (ordP N R w).map (·.2)
theorem mem_ord {N : List (List Int)} {R : List Int} {w u : Int} : u ∈ ordN N R w ↔ u ∈ nd N w ∧ u ∉ R := by
  unfold ordN ordP
  rw [((sortP_perm _).map _).mem_iff]
  simp
inductive Dfs (N : List (List Int)) : List Int → List Int → List Int → Prop
  | nil {R : List Int} : Dfs N [] R R
  | skip {w : Int} {ws R R' : List Int} (h : w ∈ R) (k : Dfs N ws R R') : Dfs N (w :: ws) R R'
  | go {w : Int} {ws R R1 R' : List Int} (h : w ∉ R) (k1 : Dfs N (ordN N R w) R R1) (k2 : Dfs N ws (R1 ++ [w]) R') : Dfs N (w :: ws) R R'
theorem Dfs.ex {N : List (List Int)} (hN : netOk N) : ∀ (b : Nat) (ws R : List Int), b ≤ N.length → (∀ w ∈ ws, 0 ≤ w ∧ w < b) → ∃ R', Dfs N ws R R'
  | b, [], R, _, _ => ⟨R, .nil⟩
  | 0, w :: ws, R, _, h => by
    have := h w List.mem_cons_self
    omega
  | b + 1, w :: ws, R, hb, h => by
    by_cases c : w ∈ R
    · obtain ⟨R', k⟩ := Dfs.ex hN (b + 1) ws R hb fun u hu => h u (List.mem_cons_of_mem _ hu)
      exact ⟨R', .skip c k⟩
    · have hw := h w List.mem_cons_self
      obtain ⟨R1, k1⟩ := Dfs.ex hN b (ordN N R w) R (by omega) fun u hu => by
        have := (nd_ok hN hw.1 (by omega)).2 u (mem_ord.mp hu).1
        omega
      obtain ⟨R', k2⟩ := Dfs.ex hN (b + 1) ws (R1 ++ [w]) hb fun u hu => h u (List.mem_cons_of_mem _ hu)
      exact ⟨R', .go c k1 k2⟩
termination_by b ws => (b, ws.length)
def Bef (N : List (List Int)) (R : List Int) : Prop := ∀ pre w post, R = pre ++ w :: post → ∀ u ∈ nd N w, u ∈ pre
theorem split3 {α : Type} : ∀ {A pre B post : List α} {w z : α}, A ++ w :: B = pre ++ z :: post → (∃ t, A = pre ++ z :: t ∧ post = t ++ w :: B) ∨ (z = w ∧ pre = A ∧ post = B) ∨ (∃ t, pre = A ++ w :: t ∧ B = t ++ z :: post)
  | [], [], B, post, w, z, e => by
    simp at e
    exact .inr (.inl ⟨e.1.symm, rfl, e.2.symm⟩)
  | [], p :: pre, B, post, w, z, e => by
    simp at e
    exact .inr (.inr ⟨pre, by simp [e.1], e.2⟩)
  | a :: A, [], B, post, w, z, e => by
    simp at e
    exact .inl ⟨A, by simp [e.1], e.2.symm⟩
  | a :: A, p :: pre, B, post, w, z, e => by
    simp at e
    rcases split3 e.2 with ⟨t, h1, h2⟩ | ⟨h1, h2, h3⟩ | ⟨t, h1, h2⟩
    · exact .inl ⟨t, by simp [e.1, h1], h2⟩
    · exact .inr (.inl ⟨h1, by simp [e.1, h2], h3⟩)
    · exact .inr (.inr ⟨t, by simp [e.1, h1], h2⟩)
theorem bef_snoc {N : List (List Int)} {R : List Int} {w : Int} (h : Bef N R) (k : ∀ u ∈ nd N w, u ∈ R) : Bef N (R ++ [w]) := by
  intro pre z post e u hu
  rcases split3 (show R ++ w :: [] = pre ++ z :: post from e) with ⟨t, h1, h2⟩ | ⟨h1, h2, h3⟩ | ⟨t, h1, h2⟩
  · exact h pre z t h1 u hu
  · subst h1 h2
    exact k u hu
  · simp at h2
theorem Dfs.ok {N : List (List Int)} (hN : netOk N) {ws R R' : List Int} (d : Dfs N ws R R') : (∀ w ∈ ws, 0 ≤ w ∧ w < N.length) →
    ∃ S, R' = R ++ S ∧ (R.Nodup → R'.Nodup) ∧ (∀ w ∈ ws, w ∈ R') ∧ (∀ z ∈ S, 0 ≤ z ∧ ∃ w ∈ ws, z ≤ w) ∧ (Bef N R → Bef N R') ∧ (∀ pre w post, S = pre ++ w :: post → w ∈ ws ∨ ∃ z ∈ post, w ∈ nd N z) := by
  induction d with
  | nil => exact fun _ => ⟨[], by simp, id, by simp, by simp, id, by simp⟩
  | @skip w ws R R' h k ih =>
    intro hr
    obtain ⟨S, e, h1, h2, h3, h4, h5⟩ := ih fun u hu => hr u (List.mem_cons_of_mem _ hu)
    refine ⟨S, e, h1, fun u hu => ?_, fun z hz => ?_, h4, fun pre u post eu => ?_⟩
    · rcases List.mem_cons.mp hu with rfl | hu
      · rw [e]; exact List.mem_append_left _ h
      · exact h2 u hu
    · obtain ⟨a, u, b, c⟩ := h3 z hz
      exact ⟨a, u, List.mem_cons_of_mem _ b, c⟩
    · exact (h5 pre u post eu).imp (List.mem_cons_of_mem _) id
  | @go w ws R R1 R' h k1 k2 ih1 ih2 =>
    intro hr
    have hw := hr w List.mem_cons_self
    have hlow := (nd_ok hN hw.1 hw.2).2
    obtain ⟨S1, e1, a1, a2, a3, a4, a5⟩ := ih1 fun u hu => by
      have := hlow u (mem_ord.mp hu).1
      omega
    obtain ⟨S2, e2, b1, b2, b3, b4, b5⟩ := ih2 fun u hu => hr u (List.mem_cons_of_mem _ hu)
    have hw1 : w ∉ R1 := by
      rw [e1]
      intro hm
      rcases List.mem_append.mp hm with hm | hm
      · exact h hm
      · obtain ⟨_, u, hu, hl⟩ := a3 w hm
        have := hlow u (mem_ord.mp hu).1
        omega
    have hall : ∀ u ∈ nd N w, u ∈ R1 := fun u hu => by
      by_cases c : u ∈ R
      · rw [e1]; exact List.mem_append_left _ c
      · exact a2 u (mem_ord.mpr ⟨hu, c⟩)
    refine ⟨S1 ++ w :: S2, by rw [e2, e1]; simp, fun hn => b1 ?_, fun u hu => ?_, fun z hz => ?_, fun hb => b4 (bef_snoc (a4 hb) hall), fun pre u post eu => ?_⟩
    · rw [List.nodup_append]
      refine ⟨a1 hn, by simp, fun a ha b hb => ?_⟩
      simp at hb
      subst hb
      rintro rfl
      exact hw1 ha
    · rcases List.mem_cons.mp hu with rfl | hu
      · rw [e2]; simp
      · exact b2 u hu
    · rcases List.mem_append.mp hz with hz | hz
      · obtain ⟨z0, u, hu, hl⟩ := a3 z hz
        have := hlow u (mem_ord.mp hu).1
        exact ⟨z0, w, List.mem_cons_self, by omega⟩
      · rcases List.mem_cons.mp hz with rfl | hz
        · exact ⟨hw.1, z, List.mem_cons_self, Int.le_refl _⟩
        · obtain ⟨z0, u, hu, hl⟩ := b3 z hz
          exact ⟨z0, u, List.mem_cons_of_mem _ hu, hl⟩
    · rcases split3 eu with ⟨t, h1, h2⟩ | ⟨h1, h2, h3⟩ | ⟨t, h1, h2⟩
      · rcases a5 _ _ _ h1 with q | ⟨z, hz, q⟩
        · exact .inr ⟨w, by rw [h2]; simp, (mem_ord.mp q).1⟩
        · exact .inr ⟨z, by rw [h2]; simp [hz], q⟩
      · exact .inl (by rw [h1]; exact List.mem_cons_self)
      · exact (b5 _ _ _ h2).imp (List.mem_cons_of_mem _) id
theorem Dfs.good {N : List (List Int)} (hN : netOk N) {A O : List Int} (hA : ∀ w ∈ A, 0 ≤ w ∧ w < N.length) (d : Dfs N A [] O) : GoodO N A O ∧ ∀ a ∈ A, a ∈ O := by
  obtain ⟨S, e, h1, h2, h3, h4, h5⟩ := d.ok hN hA
  rw [List.nil_append] at e
  subst e
  refine ⟨⟨h1 .nil, fun w hw => ?_, fun pre w ws e => ⟨h4 (by intro pre w post e; simp at e) pre w ws e, ?_⟩⟩, h2⟩
  · obtain ⟨a, u, hu, b⟩ := h3 w hw
    have := hA u hu
    omega
  · unfold keep
    rcases h5 _ _ _ e with q | ⟨z, hz, q⟩
    · simp [q]
    · simp
      exact .inr ⟨z, hz, q⟩
end Cm

namespace Cm
open PySem Fw L2
theorem put_new {α : Type} : ∀ {m : List (Int × α)} {k : Int} {v : α}, k ∉ keysA m → putA m k v = m ++ [(k, v)]
  | [], k, v, _ => rfl
  | (q, x) :: m, k, v, h => by
    simp at h
    have h1 : ¬ q = k := fun e => h.1 e.symm
    rw [putA, if_neg h1, put_new h.2]
    rfl
end Cm

namespace Cm
open PySem Fw L2
def cnt (N : List (List Int)) (L : List Int) (n : Int) : Int := ((L.filter fun u => decide (n ∈ nd N u)).length : Nat)
theorem cnt_nil (N : List (List Int)) (n : Int) : cnt N [] n = 0 := rfl
theorem cnt_app {N : List (List Int)} {L : List Int} {u n : Int} : cnt N (L ++ [u]) n = cnt N L n + if n ∈ nd N u then 1 else 0 := by
  unfold cnt
  rw [List.filter_append, List.length_append]
  by_cases c : n ∈ nd N u <;> simp [c]
theorem cnt_nn (N : List (List Int)) (L : List Int) (n : Int) : 0 ≤ cnt N L n := by unfold cnt; omega
theorem cnt_pos {N : List (List Int)} {L : List Int} {n : Int} : 0 < cnt N L n ↔ ∃ u ∈ L, n ∈ nd N u := by
  unfold cnt
  rw [show (0 : Int) < ((L.filter fun u => decide (n ∈ nd N u)).length : Nat) ↔ 0 < (L.filter fun u => decide (n ∈ nd N u)).length by omega, List.length_pos_iff_exists_mem]
  simp
noncomputable def isT (N : List (List Int)) (w : Int) : Bool := (rg 0 N.length).all fun n => decide (cnt N (need N [w]) n ≤ 1)
theorem get_dI {α : Type} {f : α → D} (hs : ∀ x, shr (f x) = true) {o : Bool} {m : List (Int × α)} {k : Int} {x : D} {ρ : En} : getK3 (.int k) x ρ (some (dI f o m)) = .ok ((getA m k).elim x f) ρ := by
  unfold getK3
  simp only [keyD_int, getD_map]
  cases getA m k <;> simp [hs]
theorem is_tree_ok {N : List (List Int)} {w : Int} {st : RSt} (hN : netOk N) (h0 : 0 ≤ w) (h1 : w < N.length) (hl : N.length ≤ 1000) : d_is_tree [netD N, .int w] st = .ok (.bl (isT N w)) st := by
  suffices hs : Rb (d_is_tree [netD N, .int w] st) fun d st' => d = .bl (isT N w) ∧ st' = st by
    obtain ⟨d, st', e, rfl, rfl⟩ := Rb_iff.mp hs
    exact e
  rw [d_is_tree]; refine Rb.of ?_
  unfold g_is_tree
  have hA : ∀ a ∈ [w], 0 ≤ a ∧ a < (N.length : Int) := fun a ha => by simp at ha; subst ha; exact ⟨h0, h1⟩
  have e1 := all_needed_ok (N := N) (A := [w]) (st := st) hN hA (by omega)
  simp only [tI, isD, List.map_cons, List.map_nil] at e1
  have hL : ∀ u ∈ need N [w], 0 ≤ u ∧ u < N.length := (need_needs hN hA).2
  have hdl : ∀ m : List (Int × Int), (keysA m).Nodup → (∀ z, (getA m z).isSome = true → 0 ≤ z ∧ z < N.length) → m.length < sizeLine := fun m k1 k2 => by
    have := nodup_len k1 (a := 0) (b := N.length) fun z hz => k2 z (by rw [getA_some]; simp [hz])
    rw [keys_len] at this
    rw [sizeLine_eq]; omega
  simp [e1]
  generalize hLL : need N [w] = L at *
  refine ob_for (fun pre ρ => ∃ m : List (Int × Int), ρ = ⟨[.sh (netD N), .sh (.int w), .ow (dI .int true m), .no, .no], st⟩ ∧ (keysA m).Nodup ∧ ∀ n, getA m n = if cnt N pre n = 0 then none else some (cnt N pre n)) ⟨[], rfl, by simp, fun n => by simp [cnt_nil, getA]⟩ ?_ ?_
  · rintro pre u post _ hx ⟨m, rfl, k1, k2⟩
    refine ⟨_, rfl, ?_⟩
    have hu := hL u (by rw [hx]; simp)
    simp [ix_net hu.1 hu.2]
    have hnn := nd_ok hN hu.1 hu.2
    refine ob_forL (fun pre2 ρ => ∃ m : List (Int × Int), ρ = ⟨[.sh (netD N), .sh (.int w), .ow (dI .int true m), .sh (.int u), .no], st⟩ ∧ (keysA m).Nodup ∧ ∀ n, getA m n = if cnt N pre n + (if n ∈ pre2 then 1 else 0) = 0 then none else some (cnt N pre n + if n ∈ pre2 then 1 else 0)) ⟨m, rfl, k1, by simpa using k2⟩ ?_ ?_
    · rintro pre2 y post2 _ hy ⟨m, rfl, k1, k2⟩
      refine ⟨_, rfl, ?_⟩
      have hyn : y ∉ pre2 := by
        have := sorted_nodup hnn.1
        rw [hy] at this
        intro z
        exact (List.nodup_append.mp this).2.2 y z y (by simp) rfl
      have hg : (getA m y).elim (D.int 0) D.int = D.int (cnt N pre y) := by
        rw [k2 y]
        simp only [if_neg hyn, Int.add_zero]
        by_cases c : cnt N pre y = 0
        · rw [if_pos c, c]; rfl
        · rw [if_neg c]; rfl
      have hm : m.length < sizeLine := hdl m k1 fun z hz => by
        rw [k2 z] at hz
        by_cases c : cnt N pre z + (if z ∈ pre2 then 1 else 0) = 0
        · rw [if_pos c] at hz; cases hz
        · by_cases c2 : z ∈ pre2
          · have := hnn.2 z (by rw [hy]; simp [c2]); omega
          · simp [c2] at c
            have := cnt_nn N pre z
            obtain ⟨u2, hu2, hz2⟩ := cnt_pos.mp (show 0 < cnt N pre z by omega)
            have hr := hL u2 (by rw [hx]; simp [hu2])
            have := (nd_ok hN hr.1 hr.2).2 z hz2
            omega
      simp
      rw [get_dI (by simp), hg]
      simp
      rw [stk_int (v := cnt N pre y + 1) .int k1 hm]
      simp
      refine ⟨putA m y (cnt N pre y + 1), ⟨rfl, rfl⟩, nodup_put k1, fun n => ?_⟩
      rw [getA_put, k2]
      have := cnt_nn N pre y
      by_cases c : y = n
      · subst c
        have c3 : ¬ cnt N pre y + 1 = 0 := by omega
        simp [c3]
      · have c' : ¬ n = y := fun z => c z.symm
        simp [c, c']
    · rintro _ ⟨m, rfl, k1, k2⟩
      simp
      refine ⟨m, ⟨rfl, rfl⟩, k1, fun n => ?_⟩
      rw [k2, cnt_app]
  · rintro _ ⟨m, rfl, k1, k2⟩
    have hkey : ∀ n, n ∈ keysA m ↔ 0 < cnt N L n := fun n => by
      have := getA_some (m := m) (k := n)
      rw [k2 n] at this
      have hc := cnt_nn N L n
      by_cases c : cnt N L n = 0
      · rw [if_pos c] at this
        simp at this
        exact ⟨fun h => absurd h this, fun h => by omega⟩
      · rw [if_neg c] at this
        simp at this
        exact ⟨fun _ => by omega, fun _ => this⟩
    have hm : m.length ≤ 16777216 := by
      have := nodup_len k1 (a := 0) (b := N.length) fun z hz => by
        obtain ⟨u2, hu2, hz2⟩ := cnt_pos.mp ((hkey z).mp hz)
        have hr := hL u2 hu2
        have := (nd_ok hN hr.1 hr.2).2 z hz2
        omega
      rw [keys_len] at this
      omega
    simp
    have hv := view_keys (f := D.int) (o := false) hm
    simp [hv]
    rw [lc_map (fun n => .bl (decide (cnt N L n = 1)))]
    · simp
      have : (keysA m).all (fun n => decide (cnt N L n = 1)) = isT N w := by
        rw [Bool.eq_iff_iff, List.all_eq_true]
        unfold isT
        rw [List.all_eq_true, hLL]
        constructor
        · intro h n hn
          have := cnt_nn N L n
          by_cases c : 0 < cnt N L n
          · have := of_decide_eq_true (h n ((hkey n).mpr c))
            simp; omega
          · simp; omega
        · intro h n hn
          have hp := (hkey n).mp hn
          obtain ⟨u2, hu2, hz2⟩ := cnt_pos.mp hp
          have hr := hL u2 hu2
          have hnr := (nd_ok hN hr.1 hr.2).2 n hz2
          have := of_decide_eq_true (h n (mem_rg.mpr ⟨hnr.1, by omega⟩))
          simp; omega
      exact this
    · intro n hn
      have hg : getA m n = some (cnt N L n) := by
        have := (hkey n).mp hn
        rw [k2 n, if_neg (by omega)]
      have hix := opIxA_d (f := D.int) (o := false) hg (by simp)
      simp [hix]
theorem look_ok {N : List (List Int)} {w : Int} {st : RSt} (hN : netOk N) (h0 : 0 ≤ w) (h1 : w < N.length) (hl : N.length ≤ 1000) (hT : isT N w = true) : d_look_tree [netD N, .int w] st = .ok .non st := by
  suffices hs : Rb (d_look_tree [netD N, .int w] st) fun d st' => d = .non ∧ st' = st by
    obtain ⟨d, st', e, rfl, rfl⟩ := Rb_iff.mp hs
    exact e
  rw [d_look_tree]; refine Rb.of ?_
  unfold g_look_tree
  simp [is_tree_ok (st := st) hN h0 h1 hl, hT]
def numA (xs : List Int) : Int := if xs = [] then 1 else maxI (((xs.length : Int) + 1) :: ((sortI xs).reverse.zipIdx.map fun p => p.1 + (p.2 : Int)))
theorem above_ok {xs : List Int} {o : Bool} {st : RSt} (hl : xs.length ≤ 1000) : d_number_above [.lst o (isD xs)] st = .ok (.int (numA xs)) st := by
  suffices hs : Rb (d_number_above [.lst o (isD xs)] st) fun d st' => d = .int (numA xs) ∧ st' = st by
    obtain ⟨d, st', e, rfl, rfl⟩ := Rb_iff.mp hs
    exact e
  rw [d_number_above]; refine Rb.of ?_
  unfold g_number_above
  have h9 : (sortI xs).length = xs.length := (sortI_perm xs).length_eq
  by_cases c : xs = []
  · subst c
    have e0 : opSortR [.lst o []] = some (.lst true []) := rfl
    simp [isD, numA, e0]
  · unfold numA
    rw [if_neg c]
    have e0 := opSortR_i o xs
    have h8 : (sortI xs).reverse.length = xs.length := by rw [List.length_reverse, h9]
    generalize (sortI xs).reverse = R at *
    have hc : R ≠ [] := fun z => c (List.length_eq_zero_iff.mp (by rw [← h8, z]; rfl))
    simp [-opSortR_i, isD, e0, hc]
    rw [lc_map (fun p : Int × Nat => .int (p.1 + (p.2 : Int)))]
    · have hz : ¬ 16777216 < R.length + 1 := by omega
      have e1 : opAdd [D.lst false [D.int ((R.length : Int) + 1)], D.lst true (List.map (fun p : Int × Nat => D.int (p.1 + (p.2 : Int))) R.zipIdx)] = some (.lst true ((((R.length : Int) + 1) :: R.zipIdx.map fun p => p.1 + (p.2 : Int)).map .int)) := by
        simp [opAdd, sizeLine_eq, Function.comp_def]
        try omega
      have e2 := opMaxL_i true (xs := ((R.length : Int) + 1) :: R.zipIdx.map fun p => p.1 + (p.2 : Int)) (by simp)
      simp
      rw [e1]
      simp [-List.map_cons]
      rw [e2]
      simp [h8]
    · rintro ⟨a, b⟩ _
      simp
def numS (N : List (List Int)) (m : List (Int × Int)) (u : Int) : List (Int × Int) := m ++ [(u, numA ((nd N u).map fun v => (getA m v).getD 0))]
def numM (N : List (List Int)) (L : List Int) : List (Int × Int) := L.foldl (numS N) []
theorem numM_nil (N : List (List Int)) : numM N [] = [] := rfl
theorem numM_snoc (N : List (List Int)) (L : List Int) (u : Int) : numM N (L ++ [u]) = numS N (numM N L) u := by simp [numM]
theorem keys_foldS (N : List (List Int)) : ∀ (L : List Int) (m : List (Int × Int)), keysA (L.foldl (numS N) m) = keysA m ++ L
  | [], m => by simp
  | u :: L, m => by
    rw [List.foldl_cons, keys_foldS N L]
    simp [numS, keysA]
theorem keys_numM (N : List (List Int)) (L : List Int) : keysA (numM N L) = L := by rw [numM, keys_foldS]; simp [keysA]
theorem settled_ok {N : List (List Int)} {w : Int} {st : RSt} (hN : netOk N) (h0 : 0 ≤ w) (h1 : w < N.length) (hl : N.length ≤ 1000) : d_settled [netD N, .int w] st = .ok (dI .int true (numM N (need N [w]))) st := by
  suffices hs : Rb (d_settled [netD N, .int w] st) fun d st' => d = dI .int true (numM N (need N [w])) ∧ st' = st by
    obtain ⟨d, st', e, rfl, rfl⟩ := Rb_iff.mp hs
    exact e
  rw [d_settled]; refine Rb.of ?_
  unfold g_settled
  have hA : ∀ a ∈ [w], 0 ≤ a ∧ a < (N.length : Int) := fun a ha => by simp at ha; subst ha; exact ⟨h0, h1⟩
  have e1 := all_needed_ok (N := N) (A := [w]) (st := st) hN hA (by omega)
  simp only [tI, isD, List.map_cons, List.map_nil] at e1
  have hL : ∀ u ∈ need N [w], 0 ≤ u ∧ u < N.length := (need_needs hN hA).2
  have hS := need_sorted N [w]
  simp [e1]
  refine ob_for (fun pre ρ => ρ = ⟨[.sh (netD N), .sh (.int w), .ow (dI .int true (numM N pre)), .no, .no], st⟩) (by simp [numM_nil, dI]) ?_ ?_
  · rintro pre u post _ hx rfl
    refine ⟨_, rfl, ?_⟩
    have hu := hL u (by rw [hx]; simp)
    have hnn := nd_ok hN hu.1 hu.2
    simp [ix_net hu.1 hu.2]
    have hin : ∀ v ∈ nd N u, v ∈ pre := fun v hv => by
      have h2 : v ∈ need N [w] := (mem_need hN hA).mpr (.need ((mem_need hN hA).mp (by rw [hx]; simp)) hv)
      have h3 := (hnn.2 v hv).2
      rw [hx] at h2 hS
      rcases List.mem_append.mp h2 with h | h
      · exact h
      · have := (List.pairwise_append.mp hS).2.1
        rcases List.mem_cons.mp h with e | h
        · omega
        · have := (List.pairwise_cons.mp this).1 v h
          omega
    have hnp : u ∉ pre := fun z => by
      rw [hx] at hS
      have := (List.pairwise_append.mp hS).2.2 u z u (by simp)
      omega
    have hlen : pre.length ≤ 1000 := by
      have := sorted_len (need_sorted N [w]) (need_needs hN hA).2
      rw [hx] at this
      simp at this
      omega
    have hnl := sorted_len hnn.1 hnn.2
    rw [show isD (nd N u) = (nd N u).map .int from rfl, lc_map (fun v => .int ((getA (numM N pre) v).getD 0))]
    · have ea := above_ok (xs := (nd N u).map fun v => (getA (numM N pre) v).getD 0) (o := false) (st := st) (by rw [List.length_map]; omega)
      simp only [isD, List.map_map, Function.comp_def] at ea
      have e4 : numM N (pre ++ [u]) = putA (numM N pre) u (numA ((nd N u).map fun v => (getA (numM N pre) v).getD 0)) := by
        rw [numM_snoc, put_new (by rw [keys_numM]; exact hnp)]
        rfl
      simp [ea, e4]
      rw [stk_int (v := numA ((nd N u).map fun v => (getA (numM N pre) v).getD 0)) .int (by rw [keys_numM]; exact (List.pairwise_append.mp (by rw [hx] at hS; exact hS)).1.imp fun h => by omega) (by rw [← keys_len, keys_numM, sizeLine_eq]; omega)]
      simp
    · intro v hv
      have hk : (getA (numM N pre) v).isSome = true := by rw [getA_some, keys_numM]; simpa using hin v hv
      obtain ⟨x, hx2⟩ := Option.isSome_iff_exists.mp hk
      have := opIxA_d (f := D.int) (o := true) hx2 (by simp)
      simp [dI, this, hx2]
  · rintro _ rfl
    simp
def siK (o : Out D) : Out D := o.bind fun d ρ1 => odK ρ1 (opSortIt d)
@[simp] theorem evSortIt_e (f : En → Out D) (ρ : En) : evSortIt f ρ = siK (f ρ) := by
  unfold evSortIt siK
  congr 1
@[simp] theorem siK_ok (d : D) (ρ : En) : siK (.ok d ρ) = odK ρ (opSortIt d) := rfl
@[simp] theorem siK_ex (x : Exc) (ρ : En) : siK (.ex x ρ) = .ex x ρ := rfl
theorem opSortIt_i (m : List (Int × Int)) : opSortIt (dI .int true m) = some (.lst true ((sortP m).map ipD)) := by
  have h : itemsP (m.map fun p => .inl p.1) (m.map fun p => D.int p.2) = some m := by
    induction m with
    | nil => rfl
    | cons p m ih =>
      obtain ⟨ns, e1, e2⟩ := Option.bind_eq_some_iff.mp ih
      obtain ⟨ms, e3, e4⟩ := Option.map_eq_some_iff.mp e2
      simp [itemsP, intKeys, intsOf, e1, e3, e4]
  simp [opSortIt, dI, h]
theorem sortP_rising {m : List (Int × Int)} (h : (keysA m).Pairwise (· < ·)) : sortP m = m := by
  refine (sortP_eq (.refl _) ?_).symm
  rw [keysA, List.pairwise_map] at h
  exact h.imp fun h => .inl h
theorem numbers_ok {N : List (List Int)} {w : Int} {st : RSt} (hN : netOk N) (h0 : 0 ≤ w) (h1 : w < N.length) (hl : N.length ≤ 1000) (hT : isT N w = true) : d_numbers_of [netD N, .int w] st = .ok (.lst true ((numM N (need N [w])).map ipD)) st := by
  suffices hs : Rb (d_numbers_of [netD N, .int w] st) fun d st' => d = .lst true ((numM N (need N [w])).map ipD) ∧ st' = st by
    obtain ⟨d, st', e, rfl, rfl⟩ := Rb_iff.mp hs
    exact e
  rw [d_numbers_of]; refine Rb.of ?_
  unfold g_numbers_of
  simp [look_ok (st := st) hN h0 h1 hl hT, settled_ok (st := st) hN h0 h1 hl, opSortIt_i]
  rw [sortP_rising (by rw [keys_numM]; exact need_sorted N [w])]
end Cm

namespace Cm
open PySem Fw L2
variable {N : List (List Int)} {rooms : Int} {st : RSt}
def nbs (N : List (List Int)) : List Int := N.map fun xs => ((nbB xs : Nat) : Int)
def wayE (N : List (List Int)) (full : Bool) (b p : Nat) : Option (Mv × Nat) :=
  if b.testBit p = true then some (("clear", (p : Int)), b ^^^ 2 ^ p)
  else if full = false ∧ b &&& nbB (nd N p) = nbB (nd N p) then some (("do", (p : Int)), b ||| 2 ^ p) else none
def fullB (N : List (List Int)) (rooms : Int) (b : Nat) : Bool := decide (rooms ≤ (onB N.length b).length)
def waysB (N : List (List Int)) (rooms : Int) (b : Nat) : List (Mv × Nat) := (List.range N.length).filterMap (wayE N (fullB N rooms b) b)
theorem sum_pow {xs : List Int} (h : xs.Pairwise (· < ·)) (h0 : ∀ u ∈ xs, 0 ≤ u) : (xs.map fun u => ((2 ^ u.toNat : Nat) : Int)).sum = ((nbB xs : Nat) : Int) := by
  induction xs with
  | nil => rfl
  | cons u xs ih =>
    obtain ⟨p1, p2⟩ := List.pairwise_cons.mp h
    have e : nbB (u :: xs) = 2 ^ u.toNat ||| nbB xs := rfl
    have hb : (nbB xs).testBit u.toNat = false := by
      rw [nbB_bit fun v hv => h0 v (List.mem_cons_of_mem _ hv)]
      have hu := h0 u List.mem_cons_self
      rw [show ((u.toNat : Nat) : Int) = u by omega]
      simp
      intro z
      have := p1 u z
      omega
    rw [List.map_cons, List.sum_cons, ih p2 fun v hv => h0 v (List.mem_cons_of_mem _ hv), e, Nat.or_comm, ← addB _ _ hb]
    push_cast
    omega
def cD : Option (Nat × Mv) → D
  | none => .non
  | some p => .tup [.int (p.1 : Int), mvD p.2]
inductive Rch (N : List (List Int)) (rooms : Int) : Nat → Prop
  | zero : Rch N rooms 0
  | step {b c : Nat} {m : Mv} (h : Rch N rooms b) (k : (m, c) ∈ waysB N rooms b) : Rch N rooms c
structure Tr (N : List (List Int)) (rooms : Int) (todo : List Nat) (m : List (Int × Option (Nat × Mv))) : Prop where
  keys : keysA m = todo.map fun b => ((b : Nat) : Int)
  nd : todo.Nodup
  zero : todo[0]? = some 0 ∧ getA m 0 = some none
  lt : ∀ b ∈ todo, b < 2 ^ N.length
  back : ∀ (i b : Nat), 0 < i → todo[i]? = some b → ∃ j a mv, j < i ∧ todo[j]? = some a ∧ (mv, b) ∈ waysB N rooms a ∧ getA m (b : Int) = some (some (a, mv))
theorem ways_lt {b c : Nat} {mv : Mv} (hb : b < 2 ^ N.length) (h : (mv, c) ∈ waysB N rooms b) : c < 2 ^ N.length := by
  unfold waysB at h
  obtain ⟨p, hp, e⟩ := List.mem_filterMap.mp h
  have hp := List.mem_range.mp hp
  unfold wayE at e
  split at e
  · cases e
    exact clear_lt hb (by assumption)
  · split at e
    · cases e
      exact do_lt hb hp
    · cases e
theorem Tr.start : Tr N rooms [0] [(0, none)] where
  keys := rfl
  nd := by simp
  zero := ⟨rfl, rfl⟩
  lt := fun b hb => by simp at hb; subst hb; exact Nat.two_pow_pos _
  back := fun i b hi h => by
    have := (List.getElem?_eq_some_iff.mp h).1
    simp at this
    omega
theorem Tr.mem {todo : List Nat} {m : List (Int × Option (Nat × Mv))} (t : Tr N rooms todo m) (b : Nat) : (b : Int) ∈ keysA m ↔ b ∈ todo := by
  rw [t.keys, List.mem_map]
  constructor
  · rintro ⟨x, hx, e⟩
    have : x = b := by omega
    exact this ▸ hx
  · intro h; exact ⟨b, h, rfl⟩
theorem Tr.len {todo : List Nat} {m : List (Int × Option (Nat × Mv))} (t : Tr N rooms todo m) : todo.length ≤ 2 ^ N.length := by
  have := nodup_len (xs := todo.map fun b => ((b : Nat) : Int)) (a := 0) (b := ((2 ^ N.length : Nat) : Int)) (by
    rw [List.nodup_iff_pairwise_ne, List.pairwise_map]
    exact (List.nodup_iff_pairwise_ne.mp t.nd).imp fun h z => h (by omega)) (fun x hx => by
    obtain ⟨b, hb, rfl⟩ := List.mem_map.mp hx
    have := t.lt b hb
    omega)
  rw [List.length_map] at this
  generalize 2 ^ N.length = z at this ⊢
  omega
theorem Tr.rch {todo : List Nat} {m : List (Int × Option (Nat × Mv))} (t : Tr N rooms todo m) : ∀ (i b : Nat), todo[i]? = some b → Rch N rooms b
  | i, b, h => by
    by_cases c : i = 0
    · subst c
      rw [t.zero.1] at h
      cases h
      exact .zero
    · obtain ⟨j, a, mv, h1, h2, h3, _⟩ := t.back i b (by omega) h
      exact .step (t.rch j a h2) h3
theorem Rch.all {todo : List Nat} {m : List (Int × Option (Nat × Mv))} (t : Tr N rooms todo m) (hc : ∀ b ∈ todo, ∀ w ∈ waysB N rooms b, w.2 ∈ todo) {b : Nat} (h : Rch N rooms b) : b ∈ todo := by
  induction h with
  | zero => exact List.mem_of_getElem? t.zero.1
  | step h k ih => exact hc _ ih _ k
def oD : Option Nat → D
  | none => .non
  | some b => .int (b : Int)
def SW (N : List (List Int)) (rooms : Int) (w : Nat) (d : D) (ls : List D) : Prop := ∃ o todo m r, d = oD r ∧ ls = [.lst o ((nbs N).map .int), .int rooms, dI cD true m] ∧ Tr N rooms todo m ∧
  match r with
  | some b => b ∈ todo ∧ b &&& w = w
  | none => ∀ b ∈ todo, ¬ b &&& w = w ∧ ∀ x ∈ waysB N rooms b, x.2 ∈ todo
inductive Way2 (N : List (List Int)) (rooms : Int) : Nat → List Mv → Nat → Prop
  | nil {b : Nat} : Way2 N rooms b [] b
  | snoc {a b c : Nat} {ms : List Mv} {m : Mv} (h : Way2 N rooms a ms b) (k : (m, c) ∈ waysB N rooms b) : Way2 N rooms a (ms ++ [m]) c
theorem Way2.cons {a c b : Nat} {m : Mv} (k : (m, c) ∈ waysB N rooms a) : ∀ {ms : List Mv}, Way2 N rooms c ms b → Way2 N rooms a (m :: ms) b := by
  intro ms h
  induction h with
  | nil => exact .snoc (ms := []) .nil k
  | snoc h k2 ih => exact .snoc ih k2
def plcF (W A : List Int) : List Int := (W.zipIdx.filter fun p => decide (p.1 ∈ A)).map fun p => ((p.2 : Nat) : Int)
theorem plc_mem {W A : List Int} {u : Int} : u ∈ plcF W A ↔ ∃ i : Nat, u = (i : Int) ∧ ∃ w, W[i]? = some w ∧ w ∈ A := by
  unfold plcF
  simp only [List.mem_map, List.mem_filter, decide_eq_true_eq]
  constructor
  · rintro ⟨⟨w, i⟩, ⟨h1, h2⟩, rfl⟩
    exact ⟨i, rfl, w, by simpa [List.mem_zipIdx_iff_getElem?] using h1, h2⟩
  · rintro ⟨i, rfl, w, h1, h2⟩
    exact ⟨(w, i), ⟨by simpa [List.mem_zipIdx_iff_getElem?] using h1, h2⟩, rfl⟩
theorem plc_sorted {W A : List Int} : (plcF W A).Pairwise (· < ·) := by
  unfold plcF
  rw [List.pairwise_map]
  refine List.Pairwise.sublist List.filter_sublist ?_
  have : ((W.zipIdx).map (·.2)).Pairwise (· < ·) := by
    rw [List.zipIdx_map_snd]
    exact List.pairwise_lt_range' ..
  rw [List.pairwise_map] at this
  exact this.imp fun h => by omega
end Cm

namespace Co
open PySem Fw L2 Cm
def pb (s w : Nat) : Nat := 2 ^ w * (s / 2 ^ w &&& 1)
abbrev nI (F : List Nat) : List Int := F.map fun s : Nat => (s : Int)
theorem mem_nI {F : List Nat} {s : Nat} : (s : Int) ∈ nI F ↔ s ∈ F := by
  rw [nI, List.mem_map]
  exact ⟨fun ⟨a, h, e⟩ => by rwa [show s = a by omega], fun h => ⟨s, h, rfl⟩⟩
theorem nodup_nI {F : List Nat} (h : F.Nodup) : (nI F).Nodup := List.nodup_iff_pairwise_ne.mpr ((List.nodup_iff_pairwise_ne.mp h).map _ fun a b n z => n (by omega))
theorem len_nI {F : List Nat} {n : Nat} (h : F.Nodup) (k : ∀ s ∈ F, s < 2 ^ n) : F.length ≤ 2 ^ n := by
  generalize 2 ^ n = b at *
  have := nodup_len (nodup_nI h) (a := 0) (b := ((b : Nat) : Int)) fun x hx => by
    obtain ⟨s, hs, rfl⟩ := List.mem_map.mp hx
    have := k s hs
    omega
  simp only [nI, List.length_map] at this
  omega
structure Fd (N : List (List Int)) (rooms : Int) (m : List (Int × Int)) (F : List Nat) : Prop where
  ks : keysA m = nI F
  nd : F.Nodup
  rc : ∀ s ∈ F, RchO N rooms s
theorem Fd.len {N : List (List Int)} {rooms : Int} {m : List (Int × Int)} {F : List Nat} (h : Fd N rooms m F) (hl : N.length ≤ 10) : F.length ≤ 2 ^ N.length ∧ m.length = F.length ∧ m.length ≤ 1024 := by
  have h1 := len_nI h.nd fun s hs => (h.rc s hs).lt
  have h2 : m.length = F.length := by rw [← keys_len, h.ks]; simp
  have h3 : 2 ^ N.length ≤ 2 ^ 10 := Nat.pow_le_pow_right (by decide) hl
  omega
theorem Fd.put {N : List (List Int)} {rooms : Int} {m : List (Int × Int)} {F : List Nat} (h : Fd N rooms m F) {s : Nat} {v : Int} (hs : RchO N rooms s) (n : s ∉ F) : Fd N rooms (putA m s v) (F ++ [s]) := by
  have hn : (s : Int) ∉ keysA m := by rw [h.ks, mem_nI]; exact n
  refine ⟨?_, ?_, fun t ht => ?_⟩
  · rw [keysA_put, if_neg hn, h.ks]; simp [nI]
  · rw [List.nodup_append]
    exact ⟨h.nd, by simp, fun a ha b hb => by simp at hb; subst hb; rintro rfl; exact n ha⟩
  · rcases List.mem_append.mp ht with ht | ht
    · exact h.rc t ht
    · simp at ht; subst ht; exact hs
def Cd (N : List (List Int)) (F : List Nat) (s : Nat) : Prop := ∀ w < N.length, clrB s w ∈ F
def Dd (N : List (List Int)) (rooms : Int) (F : List Nat) (s : Nat) : Prop := (cntO N.length s : Int) < rooms → ∀ w < N.length, s &&& msk N w = msk N w → mor s w ∈ F
end Co

namespace Cm
open PySem Fw L2
variable {N : List (List Int)} {rooms : Int}
theorem way_iff {b c : Nat} {mv : Mv} : (mv, c) ∈ waysB N rooms b ↔ ∃ p, p < N.length ∧ ((b.testBit p = true ∧ mv = (("clear" : Str), (p : Int)) ∧ c = b ^^^ 2 ^ p) ∨ (b.testBit p = false ∧ ((onB N.length b).length : Int) < rooms ∧ b &&& nbB (nd N p) = nbB (nd N p) ∧ mv = (("do" : Str), (p : Int)) ∧ c = b ||| 2 ^ p)) := by
  unfold waysB
  rw [List.mem_filterMap]
  constructor
  · rintro ⟨p, hp, e⟩
    refine ⟨p, List.mem_range.mp hp, ?_⟩
    unfold wayE at e
    split at e
    · rename_i h
      cases e
      exact .inl ⟨h, rfl, rfl⟩
    · rename_i h
      split at e
      · rename_i h2
        cases e
        refine .inr ⟨by simpa using h, ?_, h2.2, rfl, rfl⟩
        have := h2.1
        unfold fullB at this
        simpa using this
      · cases e
  · rintro ⟨p, hp, h | h⟩
    · obtain ⟨h1, rfl, rfl⟩ := h
      exact ⟨p, List.mem_range.mpr hp, by rw [wayE, if_pos h1]⟩
    · obtain ⟨h1, h2, h3, rfl, rfl⟩ := h
      refine ⟨p, List.mem_range.mpr hp, ?_⟩
      rw [wayE, if_neg (by simp [h1]), if_pos ⟨by unfold fullB; simpa using h2, h3⟩]
theorem Rch.lt {s : Nat} (h : Rch N rooms s) : s < 2 ^ N.length := by
  induction h with
  | zero => exact Nat.two_pow_pos _
  | step h k ih => exact ways_lt ih k
theorem Rch.card {s : Nat} (h : Rch N rooms s) (h0 : 0 ≤ rooms) : ((onB N.length s).length : Int) ≤ rooms := by
  induction h with
  | zero => simp [onB_zero, h0]
  | step h k ih =>
    obtain ⟨p, hp, ⟨h1, -, rfl⟩ | ⟨h1, h2, -, -, rfl⟩⟩ := way_iff.mp k
    · have := onB_clear (n := N.length) hp h1
      omega
    · have := onB_do (n := N.length) hp h1
      omega
theorem Rch.mono {r r' : Int} {s : Nat} (h : Rch N r s) (hr : r ≤ r') : Rch N r' s := by
  induction h with
  | zero => exact .zero
  | step h k ih =>
    rename_i b c m
    refine .step (m := m) ih (way_iff.mpr ?_)
    obtain ⟨p, hp, h1 | ⟨h1, h2, h3⟩⟩ := way_iff.mp k
    · exact ⟨p, hp, .inl h1⟩
    · exact ⟨p, hp, .inr ⟨h1, by omega, h3⟩⟩
theorem pred_bit (k p : Nat) : (2 ^ k - 1).testBit p = decide (p < k) := Nat.testBit_two_pow_sub_one ..
theorem pred_step (k : Nat) : (2 ^ k - 1) ||| 2 ^ k = 2 ^ (k + 1) - 1 := by
  refine Nat.eq_of_testBit_eq fun i => ?_
  rw [Nat.testBit_or, pred_bit, pred_bit, Nat.testBit_two_pow]
  by_cases c : i < k
  · simp [c]; omega
  · by_cases c2 : k = i
    · subst c2; simp
    · simp [c, c2]; omega
theorem onB_pred {n k : Nat} (h : k ≤ n) : (onB n (2 ^ k - 1)).length = k := by
  unfold onB
  have : (List.range n).filter (fun p => (2 ^ k - 1).testBit p) = List.range k := by
    have e : List.range n = List.range k ++ (List.range (n - k)).map (k + ·) := by
      rw [← List.range_add]; congr 1; omega
    rw [e, List.filter_append, List.filter_eq_self.mpr, List.filter_eq_nil_iff.mpr, List.append_nil]
    · intro a ha
      obtain ⟨b, _, rfl⟩ := List.mem_map.mp ha
      rw [pred_bit]; simp
    · intro a ha
      rw [pred_bit]; simpa using ha
  rw [this, List.length_range]
theorem Rch.full (hN : netOk N) (hr : (N.length : Int) ≤ rooms) : ∀ k, k ≤ N.length → Rch N rooms (2 ^ k - 1)
  | 0, _ => .zero
  | k + 1, hk => by
    rw [← pred_step]
    refine .step (m := (("do" : Str), (k : Int))) (Rch.full hN hr k (by omega)) (way_iff.mpr ⟨k, by omega, .inr ⟨by rw [pred_bit]; simp, by rw [onB_pred (by omega)]; omega, ?_, rfl, rfl⟩⟩)
    have hn := nd_ok hN (o := (k : Int)) (by omega) (by omega)
    refine sub_bits.mpr fun p hp => ?_
    rw [nbB_bit fun u hu => (hn.2 u hu).1] at hp
    rw [pred_bit]
    have := hn.2 _ (of_decide_eq_true hp)
    simp; omega
theorem Rch.first {s p : Nat} (h : Rch N rooms s) (hp : s.testBit p = true) : ∃ b, Rch N rooms b ∧ p < N.length ∧ b.testBit p = false ∧ ((onB N.length b).length : Int) < rooms ∧ b &&& nbB (nd N p) = nbB (nd N p) := by
  induction h with
  | zero => simp at hp
  | step h k ih =>
    rename_i b c m
    by_cases cb : b.testBit p = true
    · exact ih cb
    · obtain ⟨q, hq, ⟨h1, -, rfl⟩ | ⟨h1, h2, h3, -, rfl⟩⟩ := way_iff.mp k
      · rw [Nat.testBit_xor, Nat.testBit_two_pow] at hp
        simp at cb
        rw [cb] at hp
        have : q = p := by simpa using hp
        subst this
        rw [h1] at cb; cases cb
      · rw [Nat.testBit_or, Nat.testBit_two_pow] at hp
        simp at cb
        rw [cb] at hp
        have : q = p := by simpa using hp
        subst this
        exact ⟨b, h, hq, h1, h2, h3⟩
theorem Rch.und {s : Nat} {A : List Int} {u : Int} (hN : netOk N) (hA : ∀ a ∈ A, 0 ≤ a ∧ a < N.length ∧ s.testBit a.toNat = true) (h : Rch N rooms s) (k : Und N A u) : ∃ b, Rch N rooms b ∧ b.testBit u.toNat = true := by
  induction k with
  | ask h1 => exact ⟨s, h, (hA _ h1).2.2⟩
  | need h1 h2 ih =>
    rename_i u w
    have hu := h1.range hN fun a ha => ⟨(hA a ha).1, (hA a ha).2.1⟩
    have hn := nd_ok hN hu.1 hu.2
    obtain ⟨b, hb, hbt⟩ := ih
    obtain ⟨b2, g1, g2, g3, g4, g5⟩ := hb.first hbt
    refine ⟨b2, g1, sub_bits.mp g5 _ ?_⟩
    rw [show ((u.toNat : Nat) : Int) = u by omega, nbB_bit fun v hv => (hn.2 v hv).1]
    have := hn.2 w h2
    rw [show ((w.toNat : Nat) : Int) = w by omega]
    simpa using h2
theorem nodup_sub {α : Type} [DecidableEq α] : ∀ {xs ys : List α}, xs.Nodup → (∀ x ∈ xs, x ∈ ys) → xs.length ≤ ys.length
  | [], ys, _, _ => Nat.zero_le _
  | x :: xs, ys, h, k => by
    obtain ⟨h1, h2⟩ := List.nodup_cons.mp h
    have hx := k x List.mem_cons_self
    have := nodup_sub (ys := ys.erase x) h2 fun y hy => (List.mem_erase_of_ne (by rintro rfl; exact h1 hy)).mpr (k y (List.mem_cons_of_mem _ hy))
    rw [List.length_erase_of_mem hx] at this
    have := List.length_pos_of_mem hx
    rw [List.length_cons]
    omega
theorem bits_len {n b : Nat} {xs : List Int} (hs : xs.Pairwise (· < ·)) (h : ∀ u ∈ xs, 0 ≤ u ∧ u < n) (k : b &&& nbB xs = nbB xs) : xs.length ≤ (onB n b).length := by
  have hp : (xs.map Int.toNat).Pairwise (· < ·) := by
    rw [List.pairwise_map]
    refine List.Pairwise.imp_of_mem ?_ hs
    intro a b ha hb hab
    have := h a ha
    omega
  have hsub : ∀ x ∈ xs.map Int.toNat, x ∈ onB n b := fun x hx => by
    obtain ⟨u, hu, rfl⟩ := List.mem_map.mp hx
    have hr := h u hu
    unfold onB
    rw [List.mem_filter, List.mem_range]
    refine ⟨by omega, sub_bits.mp k _ ?_⟩
    rw [nbB_bit fun v hv => (h v hv).1, show ((u.toNat : Nat) : Int) = u by omega]
    simpa using hu
  have hnd : (xs.map Int.toNat).Nodup := List.nodup_iff_pairwise_ne.mpr (hp.imp fun h => by omega)
  simpa using nodup_sub hnd hsub
theorem Rch.least {s : Nat} {A : List Int} {r : Int} (hN : netOk N) (hA : needsOk N.length A) (hu : ∀ p : Nat, p < N.length → Und N A p) (hr : 0 ≤ r) (h : Rch N r s) (k : s &&& nbB A = nbB A) : (A.length : Int) ≤ r ∧ ∀ p : Nat, p < N.length → ((nd N p).length : Int) + 1 ≤ r := by
  refine ⟨?_, fun p hp => ?_⟩
  · have h1 := bits_len hA.1 (n := N.length) (fun u hu => by have := hA.2 u hu; omega) k
    have h2 := h.card hr
    omega
  · obtain ⟨b, hb, hbt⟩ := h.und hN (A := A) (fun a ha => by
      have := hA.2 a ha
      refine ⟨this.1, this.2, sub_bits.mp k _ ?_⟩
      rw [nbB_bit fun v hv => (hA.2 v hv).1, show ((a.toNat : Nat) : Int) = a by omega]
      simpa using ha) (hu p hp)
    obtain ⟨b2, g1, g2, g3, g4, g5⟩ := hb.first hbt
    have hn := nd_ok hN (o := (p : Int)) (by omega) (by omega)
    have := bits_len hn.1 (n := N.length) (fun u hu => by have := hn.2 u hu; omega) g5
    omega
theorem Way2.rch0 {ms : List Mv} {a b : Nat} (h : Way2 N rooms a ms b) : Rch N rooms a → Rch N rooms b := by
  induction h with
  | nil => exact fun h => h
  | snoc h k ih => exact fun h => .step (ih h) k
theorem Way2.rch {ms : List Mv} {b : Nat} (h : Way2 N rooms 0 ms b) : Rch N rooms b := h.rch0 .zero
def stW (W : List Int) (b : Nat) : List Int := (onB W.length b).map fun p : Nat => gi W (p : Int)
theorem mem_stW {W : List Int} {b : Nat} {z : Int} : z ∈ stW W b ↔ ∃ p, p < W.length ∧ b.testBit p = true ∧ gi W (p : Int) = z := by
  unfold stW onB
  simp only [List.mem_map, List.mem_filter, List.mem_range]
  exact ⟨fun ⟨p, h, e⟩ => ⟨p, h.1, h.2, e⟩, fun ⟨p, h1, h2, e⟩ => ⟨p, ⟨h1, h2⟩, e⟩⟩
theorem stW_sorted {W : List Int} {b : Nat} (hW : W.Pairwise (· < ·)) : (stW W b).Pairwise (· < ·) := by
  unfold stW onB
  rw [List.pairwise_map]
  refine List.Pairwise.imp_of_mem ?_ (List.pairwise_lt_range.sublist List.filter_sublist)
  intro a c ha hc h
  have h2 := List.mem_range.mp (List.mem_filter.mp hc).1
  exact gi_mono hW (by omega) (by omega) (by omega)
theorem stW_len (W : List Int) (b : Nat) : (stW W b).length = (onB W.length b).length := by simp [stW]
theorem gi_inj {W : List Int} {p q : Nat} (hW : W.Pairwise (· < ·)) (hp : p < W.length) (hq : q < W.length) (h : gi W (p : Int) = gi W (q : Int)) : p = q := by
  rcases Nat.lt_trichotomy p q with c | c | c
  · have := gi_mono hW (u := (p : Int)) (v := (q : Int)) (by omega) (by omega) (by omega); omega
  · exact c
  · have := gi_mono hW (u := (q : Int)) (v := (p : Int)) (by omega) (by omega) (by omega); omega
def mvW (W : List Int) (m : Mv) : Mv := (m.1, gi W m.2)
theorem way_net {W : List Int} (hN : netOk N) (hW : needsOk N.length W) (hc : ∀ w ∈ W, ∀ u ∈ nd N w, u ∈ W) {b c : Nat} {mv : Mv} (h : (mv, c) ∈ waysB (partF N W) rooms b) : fault N rooms (stW W b) (mvW W mv).1 (mvW W mv).2 = none ∧ behindF (stW W b) (mvW W mv) = stW W c ∧ (mv.1 = "do" ∨ mv.1 = "clear") ∧ 0 ≤ mv.2 ∧ mv.2 < W.length := by
  obtain ⟨p, hp, hh⟩ := way_iff.mp h
  rw [partF_len] at hp
  rcases hh with ⟨h1, rfl, rfl⟩ | ⟨h1, h2, h3, rfl, rfl⟩
  · have hm : gi W (p : Int) ∈ stW W b := mem_stW.mpr ⟨p, hp, h1, rfl⟩
    refine ⟨fault_clear hm, ?_, .inr rfl, by simp, by simpa using hp⟩
    show (if ("clear" : Str) = "do" then _ else (stW W b).filter fun w => !decide (w = gi W (p : Int))) = _
    rw [if_neg (by decide)]
    refine strict_same ((stW_sorted hW.1).sublist List.filter_sublist) (stW_sorted hW.1) fun z => ?_
    rw [List.mem_filter, mem_stW, mem_stW]
    constructor
    · rintro ⟨⟨q, hq, h4, rfl⟩, h5⟩
      refine ⟨q, hq, ?_, rfl⟩
      have : p ≠ q := by rintro rfl; simp at h5
      rw [Nat.testBit_xor, Nat.testBit_two_pow, h4]; simp [this]
    · rintro ⟨q, hq, h4, rfl⟩
      rw [Nat.testBit_xor, Nat.testBit_two_pow] at h4
      have : p ≠ q := by rintro rfl; simp [h1] at h4
      refine ⟨⟨q, hq, by simpa [this] using h4, rfl⟩, ?_⟩
      simp only [Bool.not_eq_true', decide_eq_false_iff_not]
      intro z
      exact this (gi_inj hW.1 hq hp z).symm
  · have hgm : gi W (p : Int) ∈ W := gi_mem (by omega) (by omega)
    have hm : gi W (p : Int) ∉ stW W b := fun z => by
      obtain ⟨q, hq, h4, h5⟩ := mem_stW.mp z
      have := gi_inj hW.1 hq hp h5
      subst this
      rw [h1] at h4; cases h4
    rw [nd_part (by omega) (by omega)] at h3
    rw [partF_len] at h2
    refine ⟨fault_do hm (fun u hu => ?_) (by rw [stW_len]; exact h2), ?_, .inl rfl, by simp, by simpa using hp⟩
    · have huW := hc _ hgm u hu
      have hpr := pos_rng huW
      have hb : (nbB (partR N W (gi W (p : Int)))).testBit (pos W u).toNat = true := by
        rw [nbB_bit, decide_eq_true_eq, show (((pos W u).toNat : Nat) : Int) = pos W u by omega]
        · unfold partR
          refine List.mem_map.mpr ⟨u, List.mem_filter.mpr ⟨hu, by simpa using huW⟩, rfl⟩
        · intro v hv
          unfold partR at hv
          obtain ⟨x, _, rfl⟩ := List.mem_map.mp hv
          unfold pos; omega
      refine mem_stW.mpr ⟨(pos W u).toNat, by omega, sub_bits.mp h3 _ hb, ?_⟩
      rw [show (((pos W u).toNat : Nat) : Int) = pos W u by omega]
      exact gi_pos huW
    · show (if ("do" : Str) = "do" then sortI (stW W b ++ [gi W (p : Int)]) else _) = _
      rw [if_pos rfl]
      have hn : (stW W b ++ [gi W (p : Int)]).Nodup := by
        rw [List.nodup_append]
        exact ⟨sorted_nodup (stW_sorted hW.1), by simp, fun x hx y hy => by simp at hy; subst hy; rintro rfl; exact hm hx⟩
      refine strict_same (sortI_strict hn) (stW_sorted hW.1) fun z => ?_
      rw [(sortI_perm _).mem_iff, List.mem_append, mem_stW, mem_stW]
      constructor
      · rintro (⟨q, hq, h4, rfl⟩ | h4)
        · exact ⟨q, hq, by rw [Nat.testBit_or, h4]; rfl, rfl⟩
        · simp at h4; subst h4
          exact ⟨p, hp, by rw [Nat.testBit_or, Nat.testBit_two_pow]; simp, rfl⟩
      · rintro ⟨q, hq, h4, rfl⟩
        rw [Nat.testBit_or, Nat.testBit_two_pow] at h4
        by_cases c : p = q
        · subst c; exact .inr (by simp)
        · exact .inl ⟨q, hq, by simpa [c] using h4, rfl⟩
theorem Way2.net0 {W : List Int} (hN : netOk N) (hW : needsOk N.length W) (hc : ∀ w ∈ W, ∀ u ∈ nd N w, u ∈ W) {ms : List Mv} {a b : Nat} (h : Way2 (partF N W) rooms a ms b) : endP N rooms (stW W a) (ms.map (mvW W)) = some (stW W b) ∧ ∀ m ∈ ms, (m.1 = "do" ∨ m.1 = "clear") ∧ 0 ≤ m.2 ∧ m.2 < W.length := by
  induction h with
  | nil => exact ⟨rfl, fun m hm => nomatch hm⟩
  | snoc h k ih =>
    obtain ⟨i1, i2⟩ := ih
    obtain ⟨k1, k2, k3⟩ := way_net hN hW hc k
    refine ⟨?_, fun m hm => ?_⟩
    · rw [List.map_append, endP_append, i1]
      show endP N rooms _ [mvW W _] = _
      rw [endP, k1]
      show endP N rooms _ [] = _
      rw [endP, k2]
    · rcases List.mem_append.mp hm with hm | hm
      · exact i2 m hm
      · simp at hm; subst hm; exact k3
theorem stW_zero (W : List Int) : stW W 0 = [] := by simp [stW, onB_zero]
theorem Way2.net {W : List Int} (hN : netOk N) (hW : needsOk N.length W) (hc : ∀ w ∈ W, ∀ u ∈ nd N w, u ∈ W) {ms : List Mv} {b : Nat} (h : Way2 (partF N W) rooms 0 ms b) : endP N rooms [] (ms.map (mvW W)) = some (stW W b) ∧ ∀ m ∈ ms, (m.1 = "do" ∨ m.1 = "clear") ∧ 0 ≤ m.2 ∧ m.2 < W.length := by
  have := h.net0 hN hW hc
  rwa [stW_zero] at this
theorem mskL_nb {xs : List Int} (h : xs.Pairwise (· < ·)) (h0 : ∀ u ∈ xs, 0 ≤ u) : mskL xs = nbB xs := by
  have := sum_pow h h0
  have e : (xs.map fun u => ((2 ^ u.toNat : Nat) : Int)).sum = ((mskL xs : Nat) : Int) := by
    unfold mskL
    induction xs with
    | nil => rfl
    | cons x xs ih =>
      obtain ⟨p1, p2⟩ := List.pairwise_cons.mp h
      have h0' := fun u hu => h0 u (List.mem_cons_of_mem _ hu)
      have := ih p2 h0' (sum_pow p2 h0')
      simp only [List.map_cons, List.sum_cons, this]
      push_cast
      rfl
  omega
theorem bit_of (s w : Nat) : s / 2 ^ w &&& 1 = if s.testBit w = true then 1 else 0 := by
  rw [Nat.and_one_is_mod, Nat.testBit_eq_decide_div_mod_eq]
  by_cases c : s / 2 ^ w % 2 = 1
  · simp [c]
  · have : s / 2 ^ w % 2 = 0 := by omega
    simp [this]
theorem clrB_eq (s w : Nat) : clrB s w = if s.testBit w = true then s ^^^ 2 ^ w else s := by
  unfold clrB
  rw [bit_of]
  split
  · rename_i h
    have h1 : (s ^^^ 2 ^ w).testBit w = false := by rw [Nat.testBit_xor, Nat.testBit_two_pow]; simp [h]
    have h2 := addB w _ h1
    have h3 : s ^^^ 2 ^ w ||| 2 ^ w = s := by
      refine Nat.eq_of_testBit_eq fun i => ?_
      rw [Nat.testBit_or, Nat.testBit_xor, Nat.testBit_two_pow]
      by_cases c : w = i
      · subst c; simp [h]
      · simp [c]
    rw [h3] at h2
    omega
  · simp
theorem mor_same {s w : Nat} (h : s.testBit w = true) : mor s w = s := by
  unfold mor
  refine Nat.eq_of_testBit_eq fun i => ?_
  rw [Nat.testBit_or, Nat.testBit_two_pow]
  by_cases c : w = i
  · subst c; simp [h]
  · simp [c]
theorem cntO_eq (n s : Nat) : cntO n s = (onB n s).length := by
  unfold cntO onB
  induction List.range n with
  | nil => rfl
  | cons x xs ih =>
    rw [List.map_cons, List.sum_cons, ih, bit_of]
    by_cases c : s.testBit x = true
    · simp [c]; omega
    · simp [c]
theorem msk_eq (hN : netOk N) {w : Nat} (hw : w < N.length) : msk N w = nbB (nd N (w : Int)) := by
  have hn := nd_ok hN (o := (w : Int)) (by omega) (by omega)
  rw [← mskL_nb hn.1 fun u hu => (hn.2 u hu).1]
  rfl
end Cm

namespace Cm
open PySem Fw L2
variable {N : List (List Int)} {A : List Int} {rooms : Int} {st : RSt}
noncomputable def ptN (N : List (List Int)) (A : List Int) : List (List Int) := partF N (need N A)
noncomputable def wnt (N : List (List Int)) (A : List Int) : Nat := nbB (plcF (need N A) A)
def Dn (N : List (List Int)) (A : List Int) (r : Int) : Prop := ∃ s, Rch (ptN N A) r s ∧ s &&& wnt N A = wnt N A
theorem need_closed (hN : netOk N) (hA : needsOk N.length A) : ∀ w ∈ need N A, ∀ u ∈ nd N w, u ∈ need N A := fun w hw u hu => (mem_need hN hA.2).mpr (.need ((mem_need hN hA.2).mp hw) hu)
theorem ptN_len : (ptN N A).length = (need N A).length := partF_len _ _
theorem ptN_ok (hN : netOk N) (hA : needsOk N.length A) : netOk (ptN N A) := partF_ok hN (need_needs hN hA.2)
theorem plc_needs {W : List Int} : needsOk W.length (plcF W A) := ⟨plc_sorted, fun u hu => by
  obtain ⟨i, rfl, w, h1, _⟩ := plc_mem.mp hu
  have := (List.getElem?_eq_some_iff.mp h1).1
  omega⟩
theorem plc_len {W : List Int} (hA : A.Pairwise (· < ·)) (hW : W.Pairwise (· < ·)) (h : ∀ a ∈ A, a ∈ W) : (plcF W A).length = A.length := by
  unfold plcF
  rw [List.length_map]
  have h3 : (W.zipIdx.filter fun p => decide (p.1 ∈ A)).map (·.1) = A := by
    have : (W.zipIdx.map (·.1)).filter (fun u => decide (u ∈ A)) = W.filter fun u => decide (u ∈ A) := by simp
    have e : W.filter (fun u => decide (u ∈ A)) = A := strict_same (hW.sublist List.filter_sublist) hA fun z => by
      simp; exact h z
    rw [List.filter_map] at this
    exact this.trans e
  rw [← List.length_map (f := (·.1)), h3]
theorem pos_plc {W : List Int} {a : Int} (h : a ∈ A) (hw : a ∈ W) : pos W a ∈ plcF W A := plc_mem.mpr ⟨W.idxOf a, rfl, a, idx_get hw, h⟩
theorem und_part (hN : netOk N) (hA : needsOk N.length A) {w : Int} (h : Und N A w) : Und (ptN N A) (plcF (need N A) A) (pos (need N A) w) := by
  induction h with
  | ask h => exact .ask (pos_plc h ((mem_need hN hA.2).mpr (.ask h)))
  | need h k ih =>
    rename_i u w
    have hu := (mem_need hN hA.2).mpr h
    have hw := need_closed hN hA u hu w k
    refine .need ih ?_
    have hp := pos_rng hu
    unfold ptN
    rw [nd_part hp.1 hp.2, gi_pos hu]
    exact List.mem_map.mpr ⟨w, List.mem_filter.mpr ⟨k, by simpa using hw⟩, rfl⟩
theorem part_und (hN : netOk N) (hA : needsOk N.length A) : ∀ p : Nat, p < (ptN N A).length → Und (ptN N A) (plcF (need N A) A) p := fun p hp => by
  rw [ptN_len] at hp
  have h1 := gi_mem (W := need N A) (v := (p : Int)) (by omega) (by omega)
  have := und_part hN hA ((mem_need hN hA.2).mp h1)
  rwa [pos_gi (need_sorted N A) (by omega) (by omega)] at this
theorem Dn.mono {r r' : Int} (h : Dn N A r) (hr : r ≤ r') : Dn N A r' := by
  obtain ⟨s, h1, h2⟩ := h
  exact ⟨s, h1.mono hr, h2⟩
theorem Dn.least (hN : netOk N) (hA : needsOk N.length A) (h0 : 0 ≤ rooms) (h : Dn N A rooms) : (A.length : Int) ≤ rooms ∧ ∀ p : Nat, p < (ptN N A).length → ((nd (ptN N A) p).length : Int) + 1 ≤ rooms := by
  obtain ⟨s, h1, h2⟩ := h
  have hp : needsOk (ptN N A).length (plcF (need N A) A) := by rw [ptN_len]; exact plc_needs
  have := Rch.least (ptN_ok hN hA) hp (part_und hN hA) h0 h1 h2
  rwa [plc_len hA.1 (need_sorted N A) (need_asked hN hA.2)] at this
theorem Dn.pos (hN : netOk N) (hA : needsOk N.length A) (h0 : A ≠ []) (h : Dn N A rooms) : 1 ≤ rooms := by
  refine Int.not_lt.mp fun z => ?_
  have := (Dn.least hN hA (Int.le_refl 0) (h.mono (by omega))).1
  have := List.length_pos_iff.mpr h0
  omega
theorem Dn.full (hN : netOk N) (hA : needsOk N.length A) : Dn N A (need N A).length := by
  refine ⟨2 ^ (ptN N A).length - 1, Rch.full (ptN_ok hN hA) (by rw [ptN_len]; exact Int.le_refl _) _ (Nat.le_refl _), sub_bits.mpr fun p hp => ?_⟩
  rw [pred_bit, ptN_len]
  unfold wnt at hp
  rw [nbB_bit fun u hu => (plc_needs.2 u hu).1] at hp
  have := plc_needs.2 _ (of_decide_eq_true hp)
  simp; omega
theorem least_ex {P : Nat → Prop} : ∀ (n : Nat), P n → ∃ r, r ≤ n ∧ P r ∧ ∀ q, q < r → ¬ P q := by
  intro n
  induction n using Nat.strongRecOn with
  | _ n ih =>
    intro h
    by_cases c : ∃ q, q < n ∧ P q
    · obtain ⟨q, hq, hp⟩ := c
      obtain ⟨r, h1, h2, h3⟩ := ih q hq hp
      exact ⟨r, by omega, h2, h3⟩
    · exact ⟨n, Nat.le_refl _, h, fun q hq hp => c ⟨q, hq, hp⟩⟩
def LR (N : List (List Int)) (A : List Int) (r : Nat) : Prop := 1 ≤ r ∧ r ≤ (need N A).length ∧ Dn N A r ∧ ∀ q : Int, q < r → ¬ Dn N A q
theorem LR.ex (hN : netOk N) (hA : needsOk N.length A) (h0 : A ≠ []) : ∃ r, LR N A r := by
  obtain ⟨r, h1, h2, h3⟩ := least_ex (P := fun r : Nat => Dn N A r) _ (Dn.full hN hA)
  have h4 := h2.pos hN hA h0
  refine ⟨r, by omega, h1, h2, fun q hq hd => ?_⟩
  have := hd.pos hN hA h0
  refine h3 q.toNat (by omega) ?_
  show Dn N A ((q.toNat : Nat) : Int)
  rwa [show ((q.toNat : Nat) : Int) = q by omega]
theorem SW.clo {P : List (List Int)} {w : Nat} {d : D} {ls : List D} (h : SW P rooms w d ls) : ls.length = 3 := by
  obtain ⟨o, todo, m, r, rfl, rfl, _⟩ := h
  rfl
theorem SW.none {P : List (List Int)} {w : Nat} {ls : List D} (h : SW P rooms w .non ls) : ¬ ∃ s, Rch P rooms s ∧ s &&& w = w := by
  obtain ⟨o, todo, m, r, h1, h2, t, h3⟩ := h
  cases r with
  | some b => cases h1
  | none =>
    rintro ⟨s, hs, hw⟩
    have := Rch.all t (fun b hb => (h3 b hb).2) hs
    exact (h3 s this).1 hw
theorem SW.some {P : List (List Int)} {w : Nat} {d : D} {ls : List D} (h : SW P rooms w d ls) (hd : d ≠ .non) : ∃ o todo m b, d = .int ((b : Nat) : Int) ∧ ls = [.lst o ((nbs P).map .int), .int rooms, dI cD true m] ∧ Tr P rooms todo m ∧ b ∈ todo ∧ b &&& w = w := by
  obtain ⟨o, todo, m, r, rfl, rfl, t, h3⟩ := h
  cases r with
  | none => exact absurd rfl hd
  | some b => exact ⟨o, todo, m, b, rfl, rfl, t, h3.1, h3.2⟩
theorem SW.oD {P : List (List Int)} {w : Nat} {d : D} {ls : List D} (h : SW P rooms w d ls) : ∃ ro, d = Cm.oD ro := by
  obtain ⟨o, todo, m, r, h1, _⟩ := h
  exact ⟨r, h1⟩
@[simp] theorem shr_oD (r : Option Nat) : shr (Cm.oD r) = true := by cases r <;> simp [Cm.oD]
theorem need_len (hN : netOk N) (hA : needsOk N.length A) : (need N A).length ≤ N.length := by
  have := sorted_len (need_sorted N A) (need_needs hN hA.2).2
  omega
end Cm

namespace Cm
open PySem Fw L2
variable {N : List (List Int)} {A : List Int} {rooms : Int} {st : RSt}
theorem zipD_int (xs ys : List Int) : zipD (xs.map .int) (ys.map .int) = (xs.zip ys).map fun p => D.tup [.int p.1, .int p.2] := by
  unfold zipD
  rw [List.zip_map, List.map_map]
  rfl
theorem zip_rising : ∀ {xs : List Int}, xs.Pairwise (· < ·) → ∀ p ∈ xs.zip xs.tail, p.1 < p.2
  | [], _, p, hp => by simp at hp
  | [x], _, p, hp => by simp at hp
  | x :: y :: xs, h, p, hp => by
    obtain ⟨h1, h2⟩ := List.pairwise_cons.mp h
    rcases List.mem_cons.mp hp with rfl | hp
    · exact h1 y (by simp)
    · exact zip_rising h2 p hp
end Cm

namespace Fw
open PySem L2
@[simp] theorem shr_tz (xs : List D) : shr (.tz xs) = shrL xs := by simp [shr]
@[simp] theorem frz_tz (xs : List D) : frz (.tz xs) = .tz (frzL xs) := by simp [frz]
@[simp] theorem fz_tz0 : fz (.tz []) = .tz [] := by simp [fz, shr]
@[simp] theorem opTupZ_l (o : Bool) {xs : List D} (h : shrL xs = true) : opTupZ [.lst o xs] = some (.tz xs) := by simp [opTupZ, h]
@[simp] theorem opLenZ_t (xs : List D) : opLenZ [.tz xs] = some (.int xs.length) := rfl
@[simp] theorem evTupZ0_eq (ρ : En) : evTupZ0 ρ = .ok (.tz []) ρ := rfl
def sqZK : Out D → Out (List D)
  | .ok (.tz xs) ρ' => if shrL xs = true then (if decide (xs.length ≤ sizeLine) = true then .ok xs ρ' else .no) else .no
  | .ex x ρ => .ex x ρ
  | _ => .no
@[simp] theorem itSeqZ_eq (f : En → Out D) (ρ : En) : itSeqZ f ρ = sqZK (f ρ) := by
  unfold itSeqZ
  cases f ρ with
  | ok d ρ' => cases d <;> rfl
  | ex x ρ' => rfl
  | no => rfl
theorem sqZK_ok {xs : List D} {ρ : En} (h : shrL xs = true) (hl : xs.length ≤ 1000000) : sqZK (.ok (.tz xs) ρ) = .ok xs ρ := by
  have : xs.length ≤ sizeLine := by rw [sizeLine_eq]; omega
  simp [sqZK, h, this]
end Fw
namespace Bh
open PySem Fw L2 Cm
variable {N M : List (List Int)} {st : RSt}
abbrev Ins := List (Int × Int)
def prD (p : Int × Int) : D := .tup [.int p.1, .int p.2]
def insD (ins : Ins) : D := .tz (ins.map prD)
@[simp] theorem prD_shr (p : Int × Int) : shr (prD p) = true := rfl
@[simp] theorem prD_frz (p : Int × Int) : frz (prD p) = prD p := rfl
@[simp] theorem prs_shr (ins : Ins) : shrL (ins.map prD) = true := shrL_map' fun _ _ => rfl
@[simp] theorem prs_frz (ins : Ins) : frzL (ins.map prD) = ins.map prD := by simp
@[simp] theorem insD_shr (ins : Ins) : shr (insD ins) = true := by unfold insD; simp
@[simp] theorem fz_insD (ins : Ins) : fz (insD ins) = insD ins := by unfold fz; rw [if_pos (by unfold insD; simp)]
@[simp] theorem insD_frz (ins : Ins) : frz (insD ins) = insD ins := by unfold insD; simp
theorem putA_new {α : Type} {m : List (Int × α)} {k : Int} {v : α} (h : k ∉ keysA m) : putA m k v = m ++ [(k, v)] := by
  induction m with
  | nil => rfl
  | cons p m ih =>
    obtain ⟨q, x⟩ := p
    rw [keysA_cons, List.mem_cons, not_or] at h
    have : ¬ q = k := fun e => h.1 e.symm
    simp [putA, this, ih h.2]
theorem mergeA_new {α : Type} : ∀ (m a : List (Int × α)), (keysA (a ++ m)).Nodup → mergeA a m = a ++ m
  | [], a, _ => by simp [mergeA]
  | (q, x) :: m, a, h => by
    have hq : q ∉ keysA a := by
      unfold keysA at h ⊢
      rw [List.map_append, List.nodup_append] at h
      exact fun z => h.2.2 q z q (by simp) rfl
    show mergeA (putA a q x) m = _
    rw [putA_new hq, mergeA_new m (a ++ [(q, x)]) (by simpa using h)]
    simp
theorem dictZ_ok {ins : Ins} (h : (ins.map (·.1)).Nodup) : opDictZ [insD ins] = some (dI .int true ins) := by
  unfold insD opDictZ prD
  have h1 : shrL (ins.map fun p => D.tup [.int p.1, .int p.2]) = true := by simp
  have := mergeD_A D.int ins []
  simp only [List.map_nil] at this
  rw [mergeA_new ins [] (by simpa [keysA] using h)] at this
  simp [h1, pairsD_A, this, dI]
structure InsOk (N M : List (List Int)) (ins : Ins) : Prop where
  srt : (ins.map (·.1)).Pairwise (· < ·)
  s : ∀ p ∈ ins, 0 ≤ p.1 ∧ p.1 < M.length ∧ M[p.1.toNat]? = some []
  w : ∀ p ∈ ins, 0 ≤ p.2 ∧ p.2 < N.length
  nd : (ins.map (·.2)).Nodup
theorem InsOk.nil : InsOk N M [] := ⟨by simp, by simp, by simp, by simp⟩
theorem InsOk.nod {ins : Ins} (h : InsOk N M ins) : (ins.map (·.1)).Nodup := by
  rw [List.nodup_iff_pairwise_ne]
  exact h.srt.imp fun h => by omega
theorem InsOk.len {ins : Ins} (h : InsOk N M ins) : ins.length ≤ M.length := by
  have := sorted_len (a := 0) (b := M.length) h.srt (fun x hx => by
    obtain ⟨p, hp, rfl⟩ := List.mem_map.mp hx
    have := h.s p hp
    exact ⟨this.1, this.2.1⟩)
  simp at this
  omega
theorem map_erase {α β : Type} (f : α → β) : ∀ (xs : List α) (j : Nat), (xs.map f).eraseIdx j = (xs.eraseIdx j).map f
  | [], j => by simp
  | x :: xs, 0 => rfl
  | x :: xs, j + 1 => by simp [map_erase f xs j]
theorem nodup_erase {α : Type} : ∀ {xs : List α} {j : Nat} (h : xs.Nodup) (hj : j < xs.length), xs[j] ∉ xs.eraseIdx j
  | [], j, _, hj => by simp at hj
  | x :: xs, 0, h, _ => by simpa using (List.nodup_cons.mp h).1
  | x :: xs, j + 1, h, hj => by
    have h2 := List.nodup_cons.mp h
    have hj' : j < xs.length := by simpa using hj
    simp only [List.getElem_cons_succ, List.eraseIdx_cons_succ, List.mem_cons, not_or]
    refine ⟨?_, nodup_erase h2.2 hj'⟩
    intro e
    exact h2.1 (e ▸ List.getElem_mem hj')
def insI (N M : List (List Int)) (r : Nat) (pre : List Int) (ρ : En) : Prop := ∃ (fr : List Int) (ins : Ins) (st : RSt), ρ = ⟨[.sh .rs, .sh (netD N), .sh (netD M), .ow (.lst true (fr.map .int)), .ow (.lst true (ins.map prD)), .no], st⟩ ∧ InsOk N M ins ∧ (∀ p ∈ ins, p.1 < pre.length) ∧ fr.Nodup ∧ (∀ w ∈ fr, 0 ≤ w ∧ w < N.length ∧ w ∉ ins.map (·.2)) ∧ fr.length ≤ 1000 ∧ Gd (r + 2 * (M.length - pre.length) + 1) st
theorem ins_ok {r : Nat} (hl : N.length ≤ 1000) (hm : M.length ≤ 1000) (g : Gd (r + 2 * M.length + 1) st) : Rb (d_law_ins [.rs, netD N, netD M] st) fun d st' => ∃ ins, d = insD ins ∧ InsOk N M ins ∧ Gd r st' := by
  rw [d_law_ins]; refine Rb.of ?_
  unfold g_law_ins
  simp
  rw [opRgL1' (by omega) (by omega)]
  simp
  rw [itRg1 (by omega) (by omega)]
  simp
  refine ob_for (insI N M r) ?_ ?_ ?_
  · refine ⟨rg 0 N.length, [], st, rfl, .nil, by simp, List.nodup_iff_pairwise_ne.mpr ((rg_sorted _ _).imp fun h => by omega), fun w hw => ?_, by simp; omega, g.mono (by simp)⟩
    rw [mem_rg] at hw
    exact ⟨hw.1, hw.2, by simp⟩
  · rintro pre x post _ hx ⟨fr, ins, st, rfl, hi, hs, hnd2, hfr, hfl, g⟩
    have hxl := congrArg List.length hx
    simp at hxl
    have hxx : x = pre.length := by
      have := rg_get (lo := 0) (hi := (M.length : Int)) (i := pre.length) (x := x) (by rw [hx]; simp)
      omega
    subst hxx
    have hpl : pre.length < M.length := by omega
    have hix := ix_net (N := M) (o := (pre.length : Int)) (by omega) (by omega)
    have hnd : nd M (pre.length : Int) = M[pre.length] := by
      have h2 : atI M ((pre.length : Nat) : Int) = some M[pre.length] := atI_nat' hpl
      rw [hix] at h2
      exact Option.some.inj h2
    refine ⟨_, rfl, ?_⟩
    have keep : ∀ st', Gd (r + 2 * (M.length - (pre.length + 1)) + 1) st' → insI N M r (pre ++ [(pre.length : Int)]) ⟨[.sh .rs, .sh (netD N), .sh (netD M), .ow (.lst true (fr.map .int)), .ow (.lst true (ins.map prD)), .no], st'⟩ := fun st' g => ⟨fr, ins, st', rfl, hi, fun p hp => by have := hs p hp; simp; omega, hnd2, hfr, hfl, by simpa using g⟩
    by_cases c1 : M[pre.length] = []
    · have n0 : opNe [.lst true [], .lst true []] = some (.bl false) := rfl
      by_cases c2 : fr = []
      · subst c2
        simp [hix, hnd, c1, n0]
        exact keep st (g.mono (by omega))
      · obtain ⟨b, st1, e1, b0, b1, g1⟩ := take_gd (r := r + 2 * (M.length - (pre.length + 1)) + 1 + 1) (n := 4) (st := st) (g.mono (by omega)) (by decide) (by decide)
        by_cases c3 : 0 < b
        · have hfp : 0 < fr.length := List.length_pos_iff.mpr c2
          obtain ⟨j, st2, e2, j0, j1, g2⟩ := take_gd (r := r + 2 * (M.length - (pre.length + 1)) + 1) (n := fr.length) (st := st1) g1 (by omega) (by omega)
          simp [hix, hnd, c1, c2, e1, c3, e2]
          rw [patK2_ok j0 (by simpa using j1) (by simp; omega)]
          have hil := hi.len
          have hm2 : moApp (ins.map prD) (prD ((pre.length : Int), fr[j.toNat])) = some ((ins ++ [((pre.length : Int), fr[j.toNat])]).map prD) := by
            unfold moApp
            rw [if_pos (by rw [sizeLine_eq]; simp; omega)]
            simp
          have hm3 : moApp (ins.map prD) (.tup [.int (pre.length : Int), .int fr[j.toNat]]) = some ((ins ++ [((pre.length : Int), fr[j.toNat])]).map prD) := hm2
          have her : (fr.map D.int).eraseIdx j.toNat = (fr.eraseIdx j.toNat).map D.int := map_erase D.int fr j.toNat
          have hjm : fr[j.toNat] ∈ fr := List.getElem_mem _
          obtain ⟨w0, w1, w2⟩ := hfr _ hjm
          simp [hm3, her]
          refine ⟨fr.eraseIdx j.toNat, ins ++ [((pre.length : Int), fr[j.toNat])], st2, by simp, ⟨?_, ?_, ?_, ?_⟩, ?_, ?_, ?_, ?_, by simpa using g2⟩
          · rw [List.map_append, List.pairwise_append]
            refine ⟨hi.srt, by simp, fun a ha b hb => ?_⟩
            obtain ⟨p, hp, rfl⟩ := List.mem_map.mp ha
            simp at hb
            subst hb
            exact hs p hp
          · intro p hp
            rcases List.mem_append.mp hp with hp | hp
            · exact hi.s p hp
            · simp at hp; subst hp
              exact ⟨by simp, by simp; omega, by simp [hpl, c1]⟩
          · intro p hp
            rcases List.mem_append.mp hp with hp | hp
            · exact hi.w p hp
            · simp at hp; subst hp
              exact ⟨w0, w1⟩
          · rw [List.map_append, List.nodup_append]
            refine ⟨hi.nd, by simp, fun a ha b hb => ?_⟩
            simp only [List.map_cons, List.map_nil, List.mem_singleton] at hb
            subst hb
            rintro rfl
            exact w2 ha
          · intro p hp
            rcases List.mem_append.mp hp with hp | hp
            · have := hs p hp; simp; omega
            · simp at hp; subst hp; simp; omega
          · exact hnd2.sublist (List.eraseIdx_sublist _ _)
          · intro w hw
            have hwm := List.mem_of_mem_eraseIdx hw
            obtain ⟨a1, a2, a3⟩ := hfr w hwm
            refine ⟨a1, a2, ?_⟩
            rw [List.map_append, List.mem_append]
            rintro (h | h)
            · exact a3 h
            · simp only [List.map_cons, List.map_nil, List.mem_singleton] at h
              subst h
              have : ¬ fr[j.toNat] ∈ fr.eraseIdx j.toNat := by
                exact nodup_erase hnd2 (by omega)
              exact this hw
          · have := List.length_eraseIdx_le fr j.toNat
            omega
        · simp [hix, hnd, c1, c2, e1, c3]
          exact keep st1 (g1.mono (by omega))
    · simp [hix, hnd, c1]
      exact keep st (g.mono (by omega))
  · rintro _ ⟨fr, ins, st, rfl, hi, hs, hnd, hfr, hfl, g⟩
    simp
    obtain ⟨b, st1, e1, b0, b1, g1⟩ := take_gd (r := r) (n := 8) (st := st) (g.mono (by omega)) (by decide) (by decide)
    by_cases c : b = 0
    · have ha : atI [D.tz (ins.map prD), .tz []] 1 = some (.tz []) := rfl
      simp [e1, c, ha]
      exact ⟨[], rfl, .nil, g1⟩
    · simp [e1, c]
      exact ⟨ins, rfl, hi, g1⟩
def un (ins : Ins) (k : Int) : Bool := !decide (k ∈ keysA ins)
def cnt (ins : Ins) (k : Int) : Nat := ((rg 0 k).filter (un ins)).length
def nuF (n : Nat) (ins : Ins) (k : Int) : Int := match getA ins k with
  | some w => w
  | none => (n : Int) + cnt ins k
theorem rg_at {m : Nat} {pre post : List Int} {x : Int} (h : rg 0 (m : Int) = pre ++ x :: post) : x = pre.length ∧ pre = rg 0 x ∧ pre.length < m := by
  have hl := congrArg List.length h
  simp at hl
  have h2 := rg_get (lo := 0) (hi := (m : Int)) (i := pre.length) (x := x) (by rw [h]; simp)
  have hx : x = pre.length := by omega
  refine ⟨hx, ?_, by omega⟩
  have h3 := rg_cut (a := 0) (b := x) (c := (m : Int)) (by omega) (by omega)
  rw [h] at h3
  exact (List.append_inj h3 (by simp; omega)).1
theorem rg_succ {k : Int} (h : 0 ≤ k) : rg 0 (k + 1) = rg 0 k ++ [k] := by
  rw [rg_cut (a := 0) (b := k) (c := k + 1) h (by omega)]
  congr 1
  unfold rg
  rw [show (k + 1 - k).toNat = 1 by omega]
  simp
theorem cnt_succ {ins : Ins} {k : Int} (h : 0 ≤ k) : cnt ins (k + 1) = cnt ins k + (if un ins k = true then 1 else 0) := by
  unfold cnt
  rw [rg_succ h, List.filter_append, List.length_append]
  congr 1
  cases h2 : un ins k <;> simp [h2]
theorem nuF_in {n : Nat} {ins : Ins} {k w : Int} (h : getA ins k = some w) : nuF n ins k = w := by unfold nuF; rw [h]
theorem un_get {ins : Ins} {k : Int} (h : un ins k = true) : getA ins k = none := by
  have := getA_some (m := ins) (k := k)
  unfold un at h
  cases h2 : getA ins k with
  | none => rfl
  | some w => rw [h2] at this; simp at this; simp [this] at h
theorem un_not {ins : Ins} {k : Int} (h : un ins k = false) : ∃ w, getA ins k = some w ∧ k ∈ keysA ins := by
  unfold un at h
  have hk : k ∈ keysA ins := by simpa using h
  obtain ⟨w, hw⟩ := getA_mem hk
  exact ⟨w, hw, hk⟩
theorem nuF_un {n : Nat} {ins : Ins} {k : Int} (h : un ins k = true) : nuF n ins k = (n : Int) + cnt ins k := by
  unfold nuF
  rw [un_get h]
theorem numbers_ok {ins : Ins} (hi : InsOk N M ins) (hl : N.length ≤ 1000) (hm : M.length ≤ 1000) : d_numbers_behind [netD N, netD M, insD ins] st = .ok (.lst true (((rg 0 M.length).map (nuF N.length ins)).map .int)) st := by
  suffices hs : Rb (d_numbers_behind [netD N, netD M, insD ins] st) fun d st' => d = .lst true (((rg 0 M.length).map (nuF N.length ins)).map .int) ∧ st' = st by
    obtain ⟨d, st', e, rfl, rfl⟩ := Rb_iff.mp hs
    exact e
  rw [d_numbers_behind]; refine Rb.of ?_
  unfold g_numbers_behind
  simp [dictZ_ok hi.nod]
  rw [itRg1 (by omega) (by omega)]
  simp
  refine ob_for (fun pre ρ => ρ = ⟨[.sh (netD N), .sh (netD M), .sh (insD ins), .ow (dI .int true ins), .ow (.lst true ((pre.map (nuF N.length ins)).map .int)), .sh (.int ((N.length : Int) + cnt ins pre.length)), .no], st⟩) (by simp [cnt, rg]) ?_ ?_
  · rintro pre x post _ hx rfl
    obtain ⟨e1, e2, e3⟩ := rg_at hx
    refine ⟨_, rfl, ?_⟩
    have hxm : (x : Int) = (pre.length : Int) := e1
    have hc := cnt_succ (ins := ins) (k := (pre.length : Int)) (by omega)
    have hmo : ∀ d, moApp (pre.map (D.int ∘ nuF N.length ins)) d = some (pre.map (D.int ∘ nuF N.length ins) ++ [d]) := fun d => moApp_i (by rw [sizeLine_eq]; simp; omega)
    cases hu : un ins x with
    | true =>
      have hk : ¬ x ∈ keysA ins := by simpa [un] using hu
      rw [hxm] at hu hk
      simp only [hu, if_true] at hc
      have hnu := nuF_un (n := N.length) hu
      simp [hxm, hk, hc, hnu, hmo, Int.add_assoc]
    | false =>
      obtain ⟨w, hw, hk⟩ := un_not hu
      have hix : opIxA [dI D.int true ins, .int x] = some (.int w) := opIxA_d hw rfl
      rw [hxm] at hu
      simp only [hu, Bool.false_eq_true, if_false, Nat.add_zero] at hc
      simp [hw, hk, nuF_in hw, hix, hmo, hc]
  · rintro _ rfl
    simp
theorem number_ok {ins : Ins} {k : Int} (hi : InsOk N M ins) (hl : N.length ≤ 1000) (hm : M.length ≤ 1000) (h0 : 0 ≤ k) (h1 : k < M.length) : d_number_behind [netD N, netD M, insD ins, .int k] st = .ok (.int (nuF N.length ins k)) st := by
  rw [d_number_behind, fnRes_eq]
  unfold g_number_behind
  have e := numbers_ok (st := st) hi hl hm
  have ea : atI ((rg 0 M.length).map (nuF N.length ins)) k = some (nuF N.length ins k) := by
    rw [atI_map, rg_atI h0 h1]; rfl
  simp at e
  simp [e, rg_atI h0 h1]
theorem filt_split {ins : Ins} {m : Nat} {k : Int} (h0 : 0 ≤ k) (h1 : k < m) (hu : un ins k = true) : ∃ post, (rg 0 (m : Int)).filter (un ins) = (rg 0 k).filter (un ins) ++ k :: post := by
  refine ⟨(rg (k + 1) m).filter (un ins), ?_⟩
  rw [rg_cut (a := 0) (b := k + 1) (c := (m : Int)) (by omega) (by omega), rg_succ h0]
  simp [hu]
theorem filt_get {ins : Ins} {m : Nat} {k : Int} (h0 : 0 ≤ k) (h1 : k < m) (hu : un ins k = true) : ((rg 0 (m : Int)).filter (un ins))[cnt ins k]? = some k := by
  obtain ⟨post, e⟩ := filt_split (m := m) h0 h1 hu
  rw [e]
  unfold cnt
  simp
theorem filt_of {ins : Ins} {m j : Nat} {k : Int} (h : ((rg 0 (m : Int)).filter (un ins))[j]? = some k) : 0 ≤ k ∧ k < m ∧ un ins k = true ∧ cnt ins k = j := by
  have hmem := List.mem_of_getElem? h
  rw [List.mem_filter, mem_rg] at hmem
  obtain ⟨⟨a, b⟩, c⟩ := hmem
  refine ⟨a, b, c, ?_⟩
  have h2 := filt_get (m := m) a b c
  have hn : ((rg 0 (m : Int)).filter (un ins)).Nodup := (List.nodup_iff_pairwise_ne.mpr ((rg_sorted 0 (m : Int)).imp fun h => by omega)).sublist List.filter_sublist
  obtain ⟨l1, e1⟩ := List.getElem?_eq_some_iff.mp h
  obtain ⟨l2, e2⟩ := List.getElem?_eq_some_iff.mp h2
  have i1 := hn.idxOf_getElem (cnt ins k) l2
  have i2 := hn.idxOf_getElem j l1
  rw [e2] at i1
  rw [e1] at i2
  exact i1.symm.trans i2
def newN (N M : List (List Int)) (ins : Ins) (k : Int) : List Int := sortI ((nd M k).map (nuF N.length ins))
def putF (N M : List (List Int)) (ins : Ins) : List (List Int) := N ++ ((rg 0 (M.length : Int)).filter (un ins)).map (newN N M ins)
theorem putF_len (ins : Ins) : (putF N M ins).length = N.length + cnt ins M.length := by simp [putF, cnt]
theorem zipIdx_at {α : Type} {xs : List α} {pre post : List (α × Nat)} {z : α} {i : Nat} (h : xs.zipIdx = pre ++ (z, i) :: post) : xs[i]? = some z ∧ i = pre.length := by
  have h2 : xs.zipIdx[pre.length]? = some (z, i) := by rw [h]; simp
  rw [List.getElem?_zipIdx] at h2
  obtain ⟨y, hy, e⟩ := Option.map_eq_some_iff.mp h2
  simp only [Nat.zero_add, Prod.mk.injEq] at e
  obtain ⟨rfl, rfl⟩ := e
  exact ⟨hy, rfl⟩
theorem nd_at {k : Nat} {z : List Int} (h : M[k]? = some z) : nd M (k : Int) = z ∧ k < M.length := by
  obtain ⟨hk, e⟩ := List.getElem?_eq_some_iff.mp h
  have h2 : atI M (k : Int) = some M[k] := atI_nat' hk
  rw [ix_net (by omega) (by omega)] at h2
  rw [← e]
  exact ⟨Option.some.inj h2, hk⟩
theorem put_ok {ins : Ins} (hi : InsOk N M ins) (hl : N.length ≤ 1000) (hm : M.length ≤ 1000) (hM : netOk M) : d_put_behind [netD N, netD M, insD ins] st = .ok (netD (putF N M ins)) st := by
  suffices hs : Rb (d_put_behind [netD N, netD M, insD ins] st) fun d st' => d = netD (putF N M ins) ∧ st' = st by
    obtain ⟨d, st', e, rfl, rfl⟩ := Rb_iff.mp hs
    exact e
  rw [d_put_behind]; refine Rb.of ?_
  unfold g_put_behind
  have e := numbers_ok (st := st) hi hl hm
  simp at e
  simp [e, dictZ_ok hi.nod]
  refine ob_for (toD := fun p : List Int × Nat => D.tup [.int (p.2 : Nat), tI p.1]) (xs := M.zipIdx) (fun pre ρ => ρ = ⟨[.sh (netD N), .sh (netD M), .sh (insD ins), .ow (.lst true (((rg 0 M.length).map (nuF N.length ins)).map .int)), .ow (dI .int true ins), .ow (.lst true ((N ++ ((rg 0 (pre.length : Int)).filter (un ins)).map (newN N M ins)).map tI)), .no, .no, .no], st⟩) ?_ ?_ ?_
  · simp [rg]
  · rintro pre ⟨z, i⟩ post _ hx rfl
    obtain ⟨hz, rfl⟩ := zipIdx_at hx
    obtain ⟨hnd, hpl⟩ := nd_at hz
    have hzn := hM _ _ hz
    refine ⟨_, by simp; rfl, ?_⟩
    have hlen : (rg 0 (pre.length : Int)).length = pre.length := by simp
    have hfl : ((rg 0 (pre.length : Int)).filter (un ins)).length ≤ pre.length := by
      have := List.length_filter_le (un ins) (rg 0 (pre.length : Int))
      omega
    have hmo : ∀ d, moApp (N.map tI ++ ((rg 0 (pre.length : Int)).filter (un ins)).map (tI ∘ newN N M ins)) d = some (N.map tI ++ ((rg 0 (pre.length : Int)).filter (un ins)).map (tI ∘ newN N M ins) ++ [d]) := fun d => moApp_i (by rw [sizeLine_eq]; simp; omega)
    cases hu : un ins (pre.length : Int) with
    | true =>
      have hk : ¬ (pre.length : Int) ∈ keysA ins := by simpa [un] using hu
      have hsucc : (rg 0 ((pre.length : Int) + 1)).filter (un ins) = (rg 0 (pre.length : Int)).filter (un ins) ++ [(pre.length : Int)] := by
        rw [rg_succ (by omega), List.filter_append]
        simp [hu]
      simp [hk]
      rw [lc_map (fun x : Int => D.int (nuF N.length ins x)) (by
        intro x hx
        have hxr := hzn.2 x hx
        simp [rg_atI hxr.1 (show x < (M.length : Int) by omega)])]
      have hnw : newN N M ins (pre.length : Int) = sortI (z.map (nuF N.length ins)) := by unfold newN; rw [hnd]
      have hso : opSort [.lst true (z.map fun x => D.int (nuF N.length ins x))] = some (.lst true ((sortI (z.map (nuF N.length ins))).map .int)) := by
        have := opSort_i true (z.map (nuF N.length ins))
        simpa [Function.comp_def] using this
      simp [hso, hmo, hsucc, hnw]
    | false =>
      obtain ⟨w, hw, hk⟩ := un_not hu
      have hsucc : (rg 0 ((pre.length : Int) + 1)).filter (un ins) = (rg 0 (pre.length : Int)).filter (un ins) := by
        rw [rg_succ (by omega), List.filter_append]
        simp [hu]
      simp [hk, hsucc]
  · rintro _ rfl
    simp [putF]
theorem cnt_mono {ins : Ins} {a b : Int} (h0 : 0 ≤ a) (h : a ≤ b) : cnt ins a ≤ cnt ins b := by
  unfold cnt
  rw [rg_cut (a := 0) (b := a) (c := b) h0 h, List.filter_append, List.length_append]
  omega
theorem cnt_lt {ins : Ins} {a b : Int} (h0 : 0 ≤ a) (h : a < b) (hu : un ins a = true) : cnt ins a < cnt ins b := by
  have h1 := cnt_succ (ins := ins) h0
  rw [if_pos hu] at h1
  have h2 := cnt_mono (ins := ins) (a := a + 1) (b := b) (by omega) (by omega)
  omega
theorem getA_in {ins : Ins} {k w : Int} (h : getA ins k = some w) : (k, w) ∈ ins := by
  induction ins with
  | nil => cases h
  | cons p m ih =>
    obtain ⟨q, x⟩ := p
    unfold getA at h
    split at h
    · rename_i e; subst e; cases h; simp
    · exact List.mem_cons_of_mem _ (ih h)
theorem InsOk.inj {ins : Ins} (hi : InsOk N M ins) {a b w : Int} (h1 : (a, w) ∈ ins) (h2 : (b, w) ∈ ins) : a = b := by
  obtain ⟨i, hi1, e1⟩ := List.getElem_of_mem h1
  obtain ⟨j, hj1, e2⟩ := List.getElem_of_mem h2
  have n1 := hi.nd.idxOf_getElem i (by simpa using hi1)
  have n2 := hi.nd.idxOf_getElem j (by simpa using hj1)
  simp only [List.getElem_map, e1] at n1
  simp only [List.getElem_map, e2] at n2
  have hij : i = j := n1.symm.trans n2
  subst hij
  rw [e1] at e2
  cases e2; rfl
theorem nuF_inj {ins : Ins} (hi : InsOk N M ins) {a b : Int} (a0 : 0 ≤ a) (b0 : 0 ≤ b) (h : nuF N.length ins a = nuF N.length ins b) : a = b := by
  cases ha : un ins a with
  | true =>
    rw [nuF_un ha] at h
    cases hb : un ins b with
    | true =>
      rw [nuF_un hb] at h
      rcases Int.lt_trichotomy a b with c | c | c
      · have := cnt_lt a0 c ha; omega
      · exact c
      · have := cnt_lt b0 c hb; omega
    | false =>
      obtain ⟨w, hw, _⟩ := un_not hb
      have := hi.w _ (getA_in hw)
      rw [nuF_in hw] at h
      simp only at this
      omega
  | false =>
    obtain ⟨w, hw, _⟩ := un_not ha
    have h1 := hi.w _ (getA_in hw)
    rw [nuF_in hw] at h
    simp only at h1
    cases hb : un ins b with
    | true => rw [nuF_un hb] at h; omega
    | false =>
      obtain ⟨v, hv, _⟩ := un_not hb
      rw [nuF_in hv] at h
      subst h
      exact hi.inj (getA_in hw) (getA_in hv)
theorem nuF_bd {ins : Ins} (hi : InsOk N M ins) {k : Int} (k0 : 0 ≤ k) {j : Nat} (h : cnt ins k ≤ j) (hu : un ins k = true → cnt ins k < j) : 0 ≤ nuF N.length ins k ∧ nuF N.length ins k < N.length + j := by
  cases ha : un ins k with
  | true => rw [nuF_un ha]; have := hu ha; omega
  | false =>
    obtain ⟨w, hw, _⟩ := un_not ha
    have h1 := hi.w _ (getA_in hw)
    rw [nuF_in hw]
    simp only at h1
    omega
theorem nu_nodup {ins : Ins} (hi : InsOk N M ins) {n : Int} {z : List Int} (h : needsOk n z) : (z.map (nuF N.length ins)).Nodup := by
  rw [List.nodup_iff_pairwise_ne, List.pairwise_map]
  refine List.Pairwise.imp_of_mem (fun {a b} ha hb hab e => ?_) h.1
  have := nuF_inj hi (h.2 a ha).1 (h.2 b hb).1 e
  omega
theorem nd_toNat {k : Int} (k0 : 0 ≤ k) (k1 : k < M.length) : M[k.toNat]? = some (nd M k) := by
  have hlt : k.toNat < M.length := by omega
  have h2 := nd_at (M := M) (k := k.toNat) (List.getElem?_eq_getElem hlt)
  rw [show ((k.toNat : Nat) : Int) = k by omega] at h2
  rw [h2.1]
  exact List.getElem?_eq_getElem hlt
theorem nd_needs (hM : netOk M) {k : Int} (k0 : 0 ≤ k) (k1 : k < M.length) : needsOk k (nd M k) := by
  have := hM _ _ (nd_toNat k0 k1)
  rwa [show ((k.toNat : Nat) : Int) = k by omega] at this
theorem putF_net {ins : Ins} (hi : InsOk N M ins) (hN : netOk N) (hM : netOk M) : netOk (putF N M ins) := by
  intro i z hz
  unfold putF at hz
  rw [List.getElem?_append] at hz
  split at hz
  · exact hN i z hz
  · rename_i hi2
    rw [List.getElem?_map] at hz
    obtain ⟨k, hk, rfl⟩ := Option.map_eq_some_iff.mp hz
    obtain ⟨k0, k1, hu, hc⟩ := filt_of hk
    have hkz : M[k.toNat]? = some (nd M k) := by
      have hlt : k.toNat < M.length := by omega
      have h2 := nd_at (M := M) (k := k.toNat) (List.getElem?_eq_getElem hlt)
      rw [show ((k.toNat : Nat) : Int) = k by omega] at h2
      rw [h2.1]
      exact List.getElem?_eq_getElem hlt
    have hnk := hM _ _ hkz
    have hkk : ((k.toNat : Nat) : Int) = k := by omega
    rw [hkk] at hnk
    unfold newN
    refine ⟨sortI_strict ?_, fun x hx => ?_⟩
    · exact nu_nodup hi hnk
    · have hx' : x ∈ (nd M k).map (nuF N.length ins) := (sortI_perm _).mem_iff.mp hx
      obtain ⟨y, hy, rfl⟩ := List.mem_map.mp hx'
      have hyr := hnk.2 y hy
      have := nuF_bd hi hyr.1 (j := cnt ins k) (cnt_mono hyr.1 (by omega)) (fun hu => cnt_lt hyr.1 hyr.2 hu)
      omega
theorem cnt_le (ins : Ins) (m : Nat) : cnt ins m ≤ m := by
  have := List.length_filter_le (un ins) (rg 0 (m : Int))
  simp at this
  exact this
theorem put_nd {ins : Ins} {k : Int} (k0 : 0 ≤ k) (k1 : k < M.length) (hu : un ins k = true) : nd (putF N M ins) (nuF N.length ins k) = newN N M ins k := by
  have hg := filt_get (m := M.length) k0 k1 hu
  have h2 : (putF N M ins)[N.length + cnt ins k]? = some (newN N M ins k) := by
    unfold putF
    rw [List.getElem?_append_right (by omega), Nat.add_sub_cancel_left, List.getElem?_map, hg]
    rfl
  have h3 := (nd_at h2).1
  rw [nuF_un hu]
  rw [← h3]
  congr 1
theorem put_nd_one {ins : Ins} {w : Int} (w0 : 0 ≤ w) (w1 : w < N.length) : nd (putF N M ins) w = nd N w := by
  have h := nd_toNat (M := N) w0 w1
  have h2 : (putF N M ins)[w.toNat]? = some (nd N w) := by
    unfold putF
    rw [List.getElem?_append_left (by omega), h]
  have := (nd_at h2).1
  rwa [show ((w.toNat : Nat) : Int) = w by omega] at this
theorem un_nil (k : Int) : un [] k = true := by simp [un, keysA]
theorem cnt_nil {k : Int} (h : 0 ≤ k) : (cnt [] k : Int) = k := by
  unfold cnt
  rw [List.filter_eq_self.mpr fun x _ => un_nil x]
  simp
  omega
theorem nuF_nil {n : Nat} {k : Int} (h : 0 ≤ k) : nuF n [] k = n + k := by rw [nuF_un (un_nil k), cnt_nil h]
theorem below_ok {u b : Int} (h0 : 0 ≤ u) (h1 : u < b) : d_is_work_below [.int u, .int b] st = .ok (.bl true) st := by
  rw [d_is_work_below, fnRes_eq]
  unfold g_is_work_below
  simp [tyD, PT.is, h0, h1]
theorem needs_ok {xs : List Int} {b : Int} (h : needsOk b xs) : d_are_needs [tI xs, .int b] st = .ok (.bl true) st := by
  rw [d_are_needs, fnRes_eq]
  unfold g_are_needs
  simp [tyD, PT.is]
  rw [lc_map (fun _ => D.bl true)]
  · have hall : opAll [.lst true (xs.map fun _ => D.bl true)] = some (.bl true) := by
      rw [opAll_b (f := fun _ => true)]; simp
    simp [hall]
    rw [cutD_lo (by omega)]
    simp
    rw [show (isD xs).tail = xs.tail.map D.int by simp [isD], seqOf_ts (shrL_isD _), zpK3_f, zipD_int]
    simp
    rw [lc_map (fun _ => D.bl true)]
    · simp
    · intro p hp
      have := zip_rising h.1 p hp
      simp [this]
  · intro u hu
    have := h.2 u hu
    simp [below_ok this.1 this.2]
theorem is_net_ok {N : List (List Int)} (hN : netOk N) (h0 : N ≠ []) : d_is_net [netD N] st = .ok (.bl true) st := by
  rw [d_is_net, fnRes_eq]
  unfold g_is_net
  have hl : 0 < N.length := List.length_pos_iff.mpr h0
  simp [tyD, PT.is, h0]
  rw [lc_map (toD := fun p : List Int × Nat => D.tup [.int (p.2 : Nat), tI p.1]) (xs := N.zipIdx) (fun _ => D.bl true)]
  · have hall : opAll [.lst true (N.zipIdx.map fun _ => D.bl true)] = some (.bl true) := by
      rw [opAll_b (f := fun _ => true)]; simp
    simp [hall]
  · rintro ⟨xs, i⟩ hp
    have hi := hN i xs (by rw [List.mem_zipIdx_iff_getElem?] at hp; exact hp)
    have e := needs_ok (st := st) hi
    simp [e]
end Bh

namespace Tp
open PySem Fw L2 Cm
theorem room_left {n : Nat} {S : List Int} {w : Int} (h : needsOk n S) (h0 : 0 ≤ w) (h1 : w < n) (hw : w ∉ S) : S.length < n := by
  have := behind_needs (m := ("do", w)) h h0 h1 (fun _ => hw)
  have hl := sorted_len this.1 this.2
  rw [behindF, if_pos rfl, (sortI_perm _).length_eq] at hl
  simp at hl
  omega
theorem mem_do {S : List Int} {u w : Int} : u ∈ behindF S ("do", w) ↔ u ∈ S ∨ u = w := by
  rw [behindF, if_pos rfl, (sortI_perm _).mem_iff]
  simp
theorem mem_clear {S : List Int} {u w : Int} : u ∈ behindF S ("clear", w) ↔ u ∈ S ∧ u ≠ w := by
  rw [behindF, if_neg (show ¬ (("clear" : Str) = "do") by decide)]
  simp
def mostN (T : List (List Int)) : Int := maxI (T.map fun x => (x.length : Int))
theorem fault_do_iff {N : List (List Int)} {r : Int} {S : List Int} {w : Int} : fault N r S "do" w = none ↔ w ∉ S ∧ (∀ u ∈ nd N w, u ∈ S) ∧ (S.length : Int) < r := by
  refine ⟨fun h => ?_, fun h => fault_do h.1 h.2.1 h.2.2⟩
  unfold fault at h
  rw [if_neg (show ¬ (("do" : Str) = "clear") by decide)] at h
  by_cases c1 : w ∈ S
  · rw [if_pos c1] at h; cases h
  · rw [if_neg c1] at h
    by_cases c2 : ready N S w = false
    · rw [if_pos c2] at h; cases h
    · rw [if_neg c2] at h
      by_cases c3 : (S.length : Int) < r
      · refine ⟨c1, fun u hu => ?_, c3⟩
        have : ready N S w = true := by simpa using c2
        rw [ready, List.all_eq_true] at this
        simpa using this u hu
      · rw [if_neg c3] at h; cases h
theorem fault_clear_r {N : List (List Int)} {r1 r2 : Int} {S : List Int} {w : Int} : fault N r1 S "clear" w = fault N r2 S "clear" w := by
  unfold fault
  rw [if_pos rfl, if_pos rfl]
theorem len_do {S : List Int} {w : Int} : (behindF S ("do", w)).length = S.length + 1 := by
  rw [behindF, if_pos rfl, (sortI_perm _).length_eq]; simp
theorem mostN_le {T : List (List Int)} {r : Int} (h : T ≠ []) (k : mostN T ≤ r) : ∀ x ∈ T, (x.length : Int) ≤ r := fun x hx => by
  have := (maxI_spec (ns := T.map fun x => (x.length : Int)) (by simpa using h)).2 x.length (List.mem_map.mpr ⟨x, hx, rfl⟩)
  unfold mostN at k
  omega
theorem mostN_mem {T : List (List Int)} (h : T ≠ []) : ∃ x ∈ T, mostN T = x.length := by
  have := (maxI_spec (ns := T.map fun x => (x.length : Int)) (by simpa using h)).1
  obtain ⟨x, hx, e⟩ := List.mem_map.mp this
  exact ⟨x, hx, e.symm⟩
def lastS (T : List (List Int)) : List Int := (([] : List Int) :: T).getLast (by simp)
def dueF (N : List (List Int)) (r : Int) (ms : List Mv) (A : List Int) : Bool := (runP N r [] ms).2.isNone && A.all fun a => decide (a ∈ lastS (runP N r [] ms).1)
theorem last_at {α : Type} {xs : List α} (h : xs ≠ []) : atI xs (-1) = some (xs.getLast h) := by
  conv => lhs; rw [← List.dropLast_concat_getLast h]
  exact atI_last
theorem last_T (T : List (List Int)) : atI (D.tup [] :: T.map fun x => D.tup (x.map fun x => D.int x)) (-1) = some (tI (lastS T)) := by
  have := last_at (xs := ([] : List Int) :: T) (by simp)
  have h2 := congrArg (Option.map tI) this
  rw [← atI_map] at h2
  exact h2
theorem last_T' (T : List (List Int)) : atI (tI [] :: T.map tI) (-1) = some (tI (lastS T)) := by
  have := last_at (xs := ([] : List Int) :: T) (by simp)
  have h2 := congrArg (Option.map tI) this
  rw [← atI_map] at h2
  exact h2
theorem does_ok {N : List (List Int)} {r : Int} {ms : List Mv} {A : List Int} {st : RSt} (hm : MvOk N ms) (hl : ms.length < 900000) : d_does [netD N, .int r, .lst false (ms.map mvD), tI A] st = .ok (.bl (dueF N r ms A)) st := by
  rw [d_does, fnRes_eq]
  unfold g_does
  have e2 := prog_played_ok (N := N) (rooms := r) (ms := ms) (o := true) (st := st) (fun m h => (hm m h).2) hl
  have el := last_T (runP N r [] ms).1
  unfold dueF
  cases hw : (runP N r [] ms).2 with
  | none =>
    rw [hw] at e2
    simp only at e2
    have el := last_T' (runP N r [] ms).1
    simp [e2, el, opNoN]
    rw [lc_map (fun a : Int => D.bl (decide (a ∈ lastS (runP N r [] ms).1)))]
    · simp
    · intro a ha
      simp
  | some w =>
    rw [hw] at e2
    simp only at e2
    have hx : tx_Barred.lookup (exB ((runP N r [] ms).1.length : Int) w).cls = some true := rfl
    simp [e2]
    rw [tyK_ex hx]
    simp
    done
def DoI (N : List (List Int)) (A : List Int) (P : List Mv) (S : List Int) (pre post : List Int) : Prop :=
  MvOk N P ∧ endP N N.length [] P = some S ∧ needsOk N.length S ∧ (∀ u ∈ pre, u ∈ A → u ∈ S) ∧ ∀ w ∈ post, ∀ u ∈ nd N w, u ∈ pre → u ∈ S
theorem DoI.have {N : List (List Int)} {A : List Int} {P : List Mv} {S : List Int} {pre post : List Int} {w : Int} (g : ∀ u ∈ nd N w, u ∈ pre) (h : DoI N A P S pre (w :: post)) (hw : w ∈ S) : DoI N A P S (pre ++ [w]) post := by
  obtain ⟨h1, h2, h3, h4, h5⟩ := h
  refine ⟨h1, h2, h3, fun u hu ha => ?_, fun v hv u hu hp => ?_⟩
  · rcases List.mem_append.mp hu with z | z
    · exact h4 u z ha
    · simp at z; subst z; exact hw
  · rcases List.mem_append.mp hp with z | z
    · exact h5 v (List.mem_cons_of_mem _ hv) u hu z
    · simp at z; subst z; exact hw
theorem DoI.do {N : List (List Int)} {A : List Int} {P : List Mv} {S : List Int} {pre post : List Int} {w : Int} (g : ∀ u ∈ nd N w, u ∈ pre) (h0 : 0 ≤ w) (h1 : w < N.length) (h : DoI N A P S pre (w :: post)) (hw : w ∉ S) : DoI N A (P ++ [(("do", w) : Mv)]) (behindF S ("do", w)) (pre ++ [w]) post := by
  obtain ⟨k1, k2, k3, k4, k5⟩ := h
  have hf : fault N N.length S "do" w = none := fault_do hw (fun u hu => k5 w List.mem_cons_self u hu (g u hu)) (by have := room_left k3 h0 h1 hw; omega)
  refine ⟨k1.append fun m hm => by simp at hm; subst hm; exact ⟨.inl rfl, h0, h1⟩, ?_, behind_needs k3 h0 h1 fun _ => hw, fun u hu ha => mem_do.mpr ?_, fun v hv u hu hp => mem_do.mpr ?_⟩
  · rw [endP_append, k2]
    simp [endP, hf]
  · rcases List.mem_append.mp hu with z | z
    · exact .inl (k4 u z ha)
    · simp at z; exact .inr z
  · rcases List.mem_append.mp hp with z | z
    · exact .inl (k5 v (List.mem_cons_of_mem _ hv) u hu z)
    · simp at z; exact .inr z
theorem DoI.clear {N : List (List Int)} {A : List Int} {P : List Mv} {S : List Int} {pre post : List Int} {x : Int} (h : DoI N A P S pre post) (hx : x ∈ S) (hk : keep N A post x = false) : DoI N A (P ++ [(("clear", x) : Mv)]) (behindF S ("clear", x)) pre post := by
  obtain ⟨k1, k2, k3, k4, k5⟩ := h
  have hr := k3.2 x hx
  rw [keep, Bool.or_eq_false_iff] at hk
  have hA : x ∉ A := by simpa using hk.1
  have hN : ∀ v ∈ post, x ∉ nd N v := fun v hv => by
    have := hk.2
    rw [List.any_eq_false] at this
    simpa using this v hv
  refine ⟨k1.append fun m hm => by simp at hm; subst hm; exact ⟨.inr rfl, hr.1, hr.2⟩, ?_, behind_needs k3 hr.1 hr.2 fun z => absurd z (show ¬ (("clear" : Str) = "do") by decide), fun u hu ha => mem_clear.mpr ⟨k4 u hu ha, fun z => hA (z ▸ ha)⟩, fun v hv u hu hp => mem_clear.mpr ⟨k5 v hv u hu hp, fun z => hN v hv (z ▸ hu)⟩⟩
  rw [endP_append, k2]
  simp [endP, fault_clear hx]
theorem last_end {N : List (List Int)} {r : Int} {ms : List Mv} {S : List Int} (h : endP N r [] ms = some S) : lastS (runP N r [] ms).1 = S := by
  obtain ⟨_, pre, hp⟩ := endP_run h
  unfold lastS
  simp only [hp]
  simp
end Tp

namespace Td
open PySem Fw L2 Cm
variable {N : List (List Int)}
structure Dv where
  w : Int
  i : Nat
  ns : List Nat
inductive Ev where
  | d (x : Dv)
  | c (w : Int) (i : Nat)
def Ev.i : Ev → Nat
  | .d x => x.i
  | .c _ i => i
def Ev.mv : Ev → Mv
  | .d x => ("do", x.w)
  | .c w _ => ("clear", w)
def cls : List Ev → List Nat
  | [] => []
  | .d _ :: E => cls E
  | .c _ i :: E => i :: cls E
abbrev Th := Int → Option Nat
def put (th : Th) (w : Int) (o : Option Nat) : Th := fun u => if u = w then o else th u
def fin : Th → List Ev → Th
  | th, [] => th
  | th, .d x :: E => fin (put th x.w (some x.i)) E
  | th, .c w _ :: E => fin (put th w none) E
def Dv.rel (f : Nat → Nat) (x : Dv) : Dv := ⟨x.w, f x.i, x.ns.map f⟩
def Ev.rel (f : Nat → Nat) : Ev → Ev
  | .d x => .d (x.rel f)
  | .c w i => .c w (f i)
abbrev rel (f : Nat → Nat) (E : List Ev) : List Ev := E.map (Ev.rel f)
def stand (th : Th) (S : List Int) : Prop := ∀ u, u ∈ S ↔ th u ≠ none
theorem fault_do {r : Int} {S : List Int} {w : Int} (h : fault N r S "do" w = none) : w ∉ S ∧ (∀ u ∈ nd N w, u ∈ S) ∧ (S.length : Int) < r := by
  unfold fault at h
  rw [if_neg (by decide)] at h
  split at h
  · cases h
  · rename_i h1
    split at h
    · cases h
    · rename_i h2
      split at h
      · rename_i h3
        refine ⟨h1, fun u hu => ?_, h3⟩
        have h2 : ready N S w = true := by simpa using h2
        unfold ready at h2
        simpa using List.all_eq_true.mp h2 u hu
      · cases h
end Td

namespace Bh
open PySem Fw L2 Cm Tp
variable {N M : List (List Int)} {st : RSt} {ins : Ins}
noncomputable def pl1 (N : List (List Int)) (w : Int) : List Mv := planR N [w] (need N [w])
noncomputable def pieceF (N : List (List Int)) (ins : Ins) (O : List Int) (m : Mv) : List Mv := match getA ins m.2 with
  | some w => if m.1 = "do" then (pl1 N w).filter fun x => !decide (x.2 ∈ O.map (nuF N.length ins)) else [(m.1, nuF N.length ins m.2)]
  | none => [(m.1, nuF N.length ins m.2)]
def ordF (O : List Int) (m : Mv) : List Int := if m.1 = "do" then O ++ [m.2] else O.erase m.2
noncomputable def pbF (N : List (List Int)) (ins : Ins) : List Int → List Mv → List Mv
  | _, [] => []
  | O, m :: ms => pieceF N ins O m ++ pbF N ins (ordF O m) ms
theorem sortI_congr {xs ys : List Int} (h : xs.Perm ys) : sortI xs = sortI ys := (sortI_eq (xs := ys) ((sortI_perm xs).trans h) (sortI_sorted xs))
theorem mem_sI {xs : List Int} {x : Int} : x ∈ sortI xs ↔ x ∈ xs := (sortI_perm xs).mem_iff
theorem len_sI (xs : List Int) : (sortI xs).length = xs.length := (sortI_perm xs).length_eq
theorem beh_do (S : List Int) (w : Int) : behindF S ("do", w) = sortI (S ++ [w]) := rfl
theorem beh_clear (S : List Int) (w : Int) : behindF S ("clear", w) = S.filter fun x => !decide (x = w) := if_neg (show ¬ (("clear" : Str) = "do") by decide)
theorem beh_nodup {N : List (List Int)} {r : Int} {S : List Int} {m : Mv} (hm : m.1 = "do" ∨ m.1 = "clear") (hf : fault N r S m.1 m.2 = none) (hS : S.Nodup) : (behindF S m).Nodup := by
  obtain ⟨m, w⟩ := m
  rcases hm with h | h
  · dsimp only at h; subst h
    have h3 := (fault_do_iff.mp hf).1
    rw [beh_do, (sortI_perm _).nodup_iff, List.nodup_append]
    refine ⟨hS, by simp, fun a ha b hb => ?_⟩
    simp at hb; subst hb
    rintro rfl
    exact h3 ha
  · dsimp only at h; subst h
    rw [beh_clear]
    exact hS.sublist List.filter_sublist
def comb (H S : List Int) : List Int := sortI (H ++ S.filter fun x => !decide (x ∈ H))
theorem mem_comb {H S : List Int} {x : Int} : x ∈ comb H S ↔ x ∈ H ∨ x ∈ S := by
  unfold comb
  rw [mem_sI, List.mem_append, List.mem_filter]
  by_cases h : x ∈ H <;> simp [h]
theorem comb_len (H S : List Int) : (comb H S).length ≤ H.length + S.length := by
  unfold comb
  rw [len_sI, List.length_append]
  have := List.length_filter_le (fun x => !decide (x ∈ H)) S
  omega
theorem filt_run {P : List (List Int)} {r r1 : Int} {H : List Int} {k : Nat} (hnd : ∀ w : Int, 0 ≤ w → w < N.length → nd P w = nd N w) (hH : H.Nodup) (hk : (H.length : Int) + k ≤ r) : ∀ (ps : List Mv) (S S' : List Int), MvOk N ps → S.Nodup → endP N r1 S ps = some S' →
    (∀ T ∈ (runP N r1 S ps).1, T.length ≤ k) → endP P r (comb H S) (ps.filter fun x => !decide (x.2 ∈ H)) = some (comb H S')
  | [], S, S', _, _, h, _ => by cases h; rfl
  | (m, w) :: ps, S, S', hm, hS, h, hT => by
    rw [endP] at h
    rw [runP] at hT
    cases hf : fault N r1 S m w with
    | some x => rw [hf] at h; cases h
    | none =>
      rw [hf] at h hT
      dsimp only at h hT
      have hm1 := hm (m, w) (by simp)
      have hmr : MvOk N ps := fun x hx => hm x (List.mem_cons_of_mem _ hx)
      have hTr : ∀ T ∈ (runP N r1 (behindF S (m, w)) ps).1, T.length ≤ k := fun T hT' => hT T (List.mem_cons_of_mem _ hT')
      have hT1 := hT (behindF S (m, w)) (by simp)
      have hS1 : (behindF S (m, w)).Nodup := beh_nodup hm1.1 hf hS
      have ih := filt_run hnd hH hk ps (behindF S (m, w)) S' hmr hS1 h hTr
      rw [List.filter_cons]
      by_cases hw : w ∈ H
      · have e : comb H (behindF S (m, w)) = comb H S := by
          unfold comb
          refine sortI_congr (List.Perm.append_left _ ?_)
          rcases hm1.1 with rfl | rfl
          · have : (behindF S ("do", w)).Perm (S ++ [w]) := sortI_perm _
            refine (this.filter _).trans ?_
            rw [List.filter_append]
            simp [hw]
          · rw [beh_clear, List.filter_filter]
            refine List.Perm.of_eq (List.filter_congr fun x hx => ?_)
            by_cases c : x = w
            · subst c; simp [hw]
            · simp [c]
        rw [if_neg (by simp [hw]), ← e]
        exact ih
      · rw [if_pos (by simp [hw]), endP]
        have hfP : fault P r (comb H S) m w = none := by
          rcases hm1.1 with rfl | rfl
          · have h3 := fault_do_iff.mp hf
            rw [fault_do_iff]
            refine ⟨fun z => ?_, fun u hu => ?_, ?_⟩
            · rcases mem_comb.mp z with z | z
              · exact hw z
              · exact h3.1 z
            · rw [hnd w hm1.2.1 hm1.2.2] at hu
              exact mem_comb.mpr (.inr (h3.2.1 u hu))
            · have := comb_len H S
              have hlen := len_do (S := S) (w := w)
              omega
          · refine fault_clear (mem_comb.mpr (.inr ?_))
            unfold fault at hf
            simp at hf
            exact hf
        rw [hfP]
        have e : behindF (comb H S) (m, w) = comb H (behindF S (m, w)) := by
          rcases hm1.1 with rfl | rfl
          · rw [beh_do, beh_do]
            unfold comb
            refine sortI_congr ?_
            have h1 : ((sortI (S ++ [w])).filter fun x => !decide (x ∈ H)).Perm (S.filter (fun x => !decide (x ∈ H)) ++ [w]) := by
              refine ((sortI_perm _).filter _).trans ?_
              rw [List.filter_append]
              simp [hw]
            refine ((sortI_perm _).append_right _).trans ?_
            rw [List.append_assoc]
            exact (List.Perm.append_left _ h1).symm
          · rw [beh_clear, beh_clear]
            unfold comb
            have hnn : (H ++ S.filter fun x => !decide (x ∈ H)).Nodup := by
              rw [List.nodup_append]
              refine ⟨hH, hS.sublist List.filter_sublist, fun a ha b hb e => ?_⟩
              subst e
              rw [List.mem_filter] at hb
              simp [ha] at hb
            rw [sortI_filter hnn, List.filter_append]
            congr 1
            congr 1
            · refine List.filter_eq_self.mpr fun x hx => ?_
              have : x ≠ w := fun e => hw (e ▸ hx)
              simp [this]
            · rw [List.filter_filter, List.filter_filter]
              exact List.filter_congr fun x _ => Bool.and_comm _ _
        dsimp only
        rw [e]
        exact ih
theorem pl1_end (hN : netOk N) {w : Int} (w0 : 0 ≤ w) (w1 : w < N.length) : endP N N.length [] (pl1 N w) = some [w] := by
  have hA : ∀ a ∈ [w], 0 ≤ a ∧ a < N.length := fun a ha => by simp at ha; subst ha; exact ⟨w0, w1⟩
  exact plan_end hN (Int.le_refl _) (need_good hN hA) (by simp) (need_asked hN hA)
theorem need_range (hN : netOk N) {A : List Int} (hA : ∀ a ∈ A, 0 ≤ a ∧ a < N.length) : ∀ w ∈ need N A, 0 ≤ w ∧ w < N.length := fun w hw => Und.range hN hA ((mem_need hN hA).mp hw)
theorem pl1_mv (hN : netOk N) {w : Int} (w0 : 0 ≤ w) (w1 : w < N.length) : MvOk N (pl1 N w) :=
  planR_moves hN (need_range hN fun a ha => by simp at ha; subst ha; exact ⟨w0, w1⟩)
theorem map_nodup (hi : InsOk N M ins) {O : List Int} (hO : O.Nodup) (hr : ∀ w ∈ O, 0 ≤ w ∧ w < M.length) : (O.map (nuF N.length ins)).Nodup := by
  rw [List.nodup_iff_pairwise_ne] at hO ⊢
  rw [List.pairwise_map]
  refine List.Pairwise.imp_of_mem (fun {a b} ha hb hab e => ?_) hO
  exact hab (nuF_inj hi (hr a ha).1 (hr b hb).1 e)
theorem mem_map_nu (hi : InsOk N M ins) {O : List Int} (hr : ∀ w ∈ O, 0 ≤ w ∧ w < M.length) {w : Int} (w0 : 0 ≤ w) : nuF N.length ins w ∈ O.map (nuF N.length ins) ↔ w ∈ O := by
  constructor
  · intro h
    obtain ⟨v, hv, e⟩ := List.mem_map.mp h
    have := nuF_inj hi (hr v hv).1 w0 e
    exact this ▸ hv
  · exact fun h => List.mem_map.mpr ⟨w, h, rfl⟩
theorem erase_filter {O : List Int} (hO : O.Nodup) (w : Int) : O.erase w = O.filter fun x => !decide (x = w) := by
  rw [hO.erase_eq_filter]
  exact List.filter_congr fun x _ => by by_cases c : x = w <;> simp [c]
structure OrdOk (M : List (List Int)) (O : List Int) : Prop where
  nd : O.Nodup
  rg : ∀ w ∈ O, 0 ≤ w ∧ w < M.length
theorem ord_ok {O : List Int} {m : Mv} {rM : Int} (h : OrdOk M O) (hm : (m.1 = "do" ∨ m.1 = "clear") ∧ 0 ≤ m.2 ∧ m.2 < M.length) (hf : fault M rM (sortI O) m.1 m.2 = none) : OrdOk M (ordF O m) ∧ behindF (sortI O) m = sortI (ordF O m) := by
  obtain ⟨m, w⟩ := m
  obtain ⟨hd, w0, w1⟩ := hm
  rcases hd with hd | hd
  · dsimp only at hd; subst hd
    have h3 := (fault_do_iff.mp hf).1
    have hw : w ∉ O := fun z => h3 (mem_sI.mpr z)
    have e : ordF O ("do", w) = O ++ [w] := rfl
    rw [e]
    refine ⟨⟨?_, fun x hx => ?_⟩, ?_⟩
    · rw [List.nodup_append]
      refine ⟨h.nd, by simp, fun a ha b hb => ?_⟩
      simp at hb; subst hb
      rintro rfl
      exact hw ha
    · rcases List.mem_append.mp hx with hx | hx
      · exact h.rg x hx
      · simp at hx; subst hx; exact ⟨w0, w1⟩
    · rw [beh_do]
      exact sortI_congr ((sortI_perm _).append_right _)
  · dsimp only at hd; subst hd
    have e : ordF O ("clear", w) = O.erase w := if_neg (show ¬ (("clear" : Str) = "do") by decide)
    rw [e, erase_filter h.nd]
    refine ⟨⟨h.nd.sublist List.filter_sublist, fun x hx => h.rg x (List.mem_filter.mp hx).1⟩, ?_⟩
    rw [beh_clear, sortI_filter h.nd]
theorem piece_ok (hi : InsOk N M ins) (hN : netOk N) (hM : netOk M) {O : List Int} {m : Mv} {r rM : Int} {mM : Nat} {kN : Int → Nat} (h : OrdOk M O) (hm : (m.1 = "do" ∨ m.1 = "clear") ∧ 0 ≤ m.2 ∧ m.2 < M.length)
    (hf : fault M rM (sortI O) m.1 m.2 = none) (hb : (behindF (sortI O) m).length ≤ mM) (hr : (mM : Int) ≤ r) (hk : ∀ p ∈ ins, ∀ T ∈ (runP N N.length [] (pl1 N p.2)).1, T.length ≤ kN p.2) (hkr : ∀ p ∈ ins, (mM : Int) - 1 + kN p.2 ≤ r) :
    endP (putF N M ins) r (sortI (O.map (nuF N.length ins))) (pieceF N ins O m) = some (sortI ((ordF O m).map (nuF N.length ins))) := by
  obtain ⟨hd, w0, w1⟩ := hm
  have hnn := map_nodup hi h.nd h.rg
  have hcl : m.1 = "clear" → endP (putF N M ins) r (sortI (O.map (nuF N.length ins))) [(m.1, nuF N.length ins m.2)] = some (sortI ((ordF O m).map (nuF N.length ins))) := fun hc => by
    obtain ⟨m, w⟩ := m
    dsimp only at hc; subst hc
    have hw : w ∈ O := by
      unfold fault at hf
      simp at hf
      exact mem_sI.mp hf
    have e : ordF O ("clear", w) = O.erase w := if_neg (show ¬ (("clear" : Str) = "do") by decide)
    have hfP : fault (putF N M ins) r (sortI (O.map (nuF N.length ins))) "clear" (nuF N.length ins w) = none := fault_clear (mem_sI.mpr ((mem_map_nu hi h.rg w0).mpr hw))
    rw [e, endP]
    dsimp only
    rw [hfP]
    dsimp only
    rw [endP, beh_clear, sortI_filter hnn, erase_filter h.nd, List.filter_map]
    congr 3
    refine List.filter_congr fun x hx => ?_
    have hxr := h.rg x hx
    by_cases c : x = w
    · subst c; simp
    · have : ¬ nuF N.length ins x = nuF N.length ins w := fun e => c (nuF_inj hi hxr.1 w0 e)
      simp [c, this]
  rcases hd with hd | hd
  · obtain ⟨m, w⟩ := m
    dsimp only at hd w0 w1; subst hd
    have h3 := fault_do_iff.mp hf
    have hw : w ∉ O := fun z => h3.1 (mem_sI.mpr z)
    have hlen : O.length + 1 ≤ mM := by
      have := len_do (S := sortI O) (w := w)
      rw [len_sI] at this
      omega
    have hnw : nuF N.length ins w ∉ O.map (nuF N.length ins) := fun z => hw ((mem_map_nu hi h.rg w0).mp z)
    have e : ordF O ("do", w) = O ++ [w] := rfl
    rw [e]
    cases hu : un ins w with
    | true =>
      have hp : pieceF N ins O ("do", w) = [(("do" : Str), nuF N.length ins w)] := by
        unfold pieceF
        rw [un_get hu]
      have hfP : fault (putF N M ins) r (sortI (O.map (nuF N.length ins))) "do" (nuF N.length ins w) = none := by
        rw [fault_do_iff]
        refine ⟨fun z => hnw (mem_sI.mp z), fun u hu2 => ?_, by rw [len_sI, List.length_map]; omega⟩
        rw [put_nd w0 w1 hu] at hu2
        obtain ⟨v, hv, rfl⟩ := List.mem_map.mp (mem_sI.mp hu2)
        exact mem_sI.mpr (List.mem_map.mpr ⟨v, mem_sI.mp (h3.2.1 v hv), rfl⟩)
      rw [hp, endP]
      dsimp only
      rw [hfP]
      dsimp only
      rw [endP, beh_do]
      congr 1
      refine sortI_congr ?_
      rw [List.map_append]
      exact (sortI_perm _).append_right _
    | false =>
      obtain ⟨v, hv, _⟩ := un_not hu
      have hvi := getA_in hv
      have hvr := hi.w _ hvi
      simp only at hvr
      have hnv := nuF_in (n := N.length) hv
      have hp : pieceF N ins O ("do", w) = (pl1 N v).filter fun x => !decide (x.2 ∈ O.map (nuF N.length ins)) := by
        unfold pieceF
        rw [hv]
        dsimp only
        rw [if_pos rfl]
      have hkv := hkr _ hvi
      simp only at hkv
      have hrun := filt_run (N := N) (P := putF N M ins) (r := r) (r1 := N.length) (H := O.map (nuF N.length ins)) (k := kN v) (fun w h0 h1 => put_nd_one h0 h1) hnn (by rw [List.length_map]; omega) (pl1 N v) [] [v] (pl1_mv hN hvr.1 hvr.2) (by simp) (pl1_end hN hvr.1 hvr.2) (hk _ hvi)
      have c1 : comb (O.map (nuF N.length ins)) [] = sortI (O.map (nuF N.length ins)) := by unfold comb; simp
      have c2 : comb (O.map (nuF N.length ins)) [v] = sortI ((O ++ [w]).map (nuF N.length ins)) := by
        unfold comb
        rw [List.map_append, List.map_cons, List.map_nil, hnv]
        have : v ∉ O.map (nuF N.length ins) := by rw [← hnv]; exact hnw
        simp only [List.filter_cons, this, decide_false, Bool.not_false, if_true, List.filter_nil]
      rw [hp]
      rw [c1, c2] at hrun
      exact hrun
  · cases hu : un ins m.2 with
    | true =>
      have hp : pieceF N ins O m = [(m.1, nuF N.length ins m.2)] := by
        unfold pieceF
        rw [un_get hu]
      rw [hp]
      exact hcl hd
    | false =>
      obtain ⟨v, hv, _⟩ := un_not hu
      have hp : pieceF N ins O m = [(m.1, nuF N.length ins m.2)] := by
        unfold pieceF
        rw [hv]
        dsimp only
        rw [if_neg (by rw [hd]; decide)]
      rw [hp]
      exact hcl hd
theorem behind_run (hi : InsOk N M ins) (hN : netOk N) (hM : netOk M) {r rM : Int} {mM : Nat} {kN : Int → Nat} (hr : (mM : Int) ≤ r) (hk : ∀ p ∈ ins, ∀ T ∈ (runP N N.length [] (pl1 N p.2)).1, T.length ≤ kN p.2) (hkr : ∀ p ∈ ins, (mM : Int) - 1 + kN p.2 ≤ r) :
    ∀ (ms : List Mv) (O S' : List Int), MvOk M ms → OrdOk M O → endP M rM (sortI O) ms = some S' → (∀ T ∈ (runP M rM (sortI O) ms).1, T.length ≤ mM) →
    endP (putF N M ins) r (sortI (O.map (nuF N.length ins))) (pbF N ins O ms) = some (sortI (S'.map (nuF N.length ins)))
  | [], O, S', _, hO, h, _ => by
    cases h
    rw [pbF, endP]
    congr 1
    exact sortI_congr ((sortI_perm _).map _).symm
  | m :: ms, O, S', hm, hO, h, hT => by
    rw [endP] at h
    rw [runP] at hT
    cases hf : fault M rM (sortI O) m.1 m.2 with
    | some x => rw [hf] at h; cases h
    | none =>
      rw [hf] at h hT
      dsimp only at h hT
      have hm1 := hm m (by simp)
      obtain ⟨hO2, e⟩ := ord_ok hO hm1 hf
      have hp := piece_ok (r := r) (kN := kN) hi hN hM hO hm1 hf (hT _ (by simp)) hr hk hkr
      rw [e] at h hT
      have ih := behind_run hi hN hM hr hk hkr ms (ordF O m) S' (fun x hx => hm x (List.mem_cons_of_mem _ hx)) hO2 h (fun T hT' => hT T (List.mem_cons_of_mem _ hT'))
      rw [pbF, endP_append, hp]
      exact ih
end Bh

namespace Bh
open PySem Fw L2 Cm Tp
variable {N M : List (List Int)} {st : RSt} {ins : Ins}
theorem pbF_append : ∀ (a b : List Mv) (O : List Int), pbF N ins O (a ++ b) = pbF N ins O a ++ pbF N ins (a.foldl ordF O) b
  | [], b, O => rfl
  | m :: a, b, O => by
    rw [List.cons_append, pbF, pbF, pbF_append a b, List.append_assoc]
    rfl
def uD : Unit → D := fun _ => .bl true
abbrev thD (H : List Int) : D := dI uD true (H.map fun x => (x, ()))
theorem th_keys (H : List Int) : keysA (H.map fun x => (x, ())) = H := by simp [keysA, Function.comp_def]
theorem th_get {H : List Int} {x : Int} (h : x ∈ H) : getA (H.map fun x => (x, ())) x = some () := by
  have : x ∈ keysA (H.map fun x => (x, ())) := by rw [th_keys]; exact h
  obtain ⟨v, hv⟩ := getA_mem this
  exact hv
theorem th_put {H : List Int} {x : Int} (h : x ∉ H) : putA (H.map fun x => (x, ())) x () = (H ++ [x]).map fun x => (x, ()) := by
  rw [putA_new (by rw [th_keys]; exact h)]
  simp
theorem th_drop {H : List Int} {x : Int} (hn : H.Nodup) : dropA (H.map fun x => (x, ())) x = (H.erase x).map fun x => (x, ()) := by
  rw [erase_filter hn]
  unfold dropA
  rw [List.filter_map]
  congr 1
  exact List.filter_congr fun y _ => by by_cases c : y = x <;> simp [c]
theorem th_in (neg : Bool) (H : List Int) (x : Int) : opIn neg [.int x, thD H] = some (.bl (if neg = true then !decide (x ∈ H) else decide (x ∈ H))) := by
  have := opIn_d neg uD true (H.map fun x => (x, ())) x
  rw [th_keys] at this
  exact this
theorem need_len (hN : netOk N) {w : Int} (w0 : 0 ≤ w) (w1 : w < N.length) : (need N [w]).length ≤ N.length := by
  have hA : ∀ a ∈ [w], 0 ≤ a ∧ a < N.length := fun a ha => by simp at ha; subst ha; exact ⟨w0, w1⟩
  have := sorted_len (a := 0) (b := N.length) (need_sorted N [w]) (need_range hN hA)
  omega
theorem pl1_len (hN : netOk N) {w : Int} (w0 : 0 ≤ w) (w1 : w < N.length) : (pl1 N w).length ≤ N.length * (N.length + 1) := by
  have hA : ∀ a ∈ [w], 0 ≤ a ∧ a < N.length := fun a ha => by simp at ha; subst ha; exact ⟨w0, w1⟩
  refine Nat.le_trans (planR_len hN (need_range hN hA)) (Nat.mul_le_mul_right _ (need_len hN w0 w1))
theorem piece_len (hi : InsOk N M ins) (hN : netOk N) (O : List Int) (m : Mv) : (pieceF N ins O m).length ≤ N.length * (N.length + 1) + 1 := by
  unfold pieceF
  split
  · rename_i w hw
    have hw := hi.w _ (getA_in hw)
    dsimp only at hw
    split
    · have h1 := List.length_filter_le (fun x => !decide (x.2 ∈ O.map (nuF N.length ins))) (pl1 N w)
      have h2 := pl1_len hN hw.1 hw.2
      omega
    · simp
  · simp
theorem pbF_len (hi : InsOk N M ins) (hN : netOk N) : ∀ (ms : List Mv) (O : List Int), (pbF N ins O ms).length ≤ ms.length * (N.length * (N.length + 1) + 1)
  | [], O => by simp [pbF]
  | m :: ms, O => by
    rw [pbF, List.length_append, List.length_cons, Nat.succ_mul]
    have := piece_len hi hN O m
    have := pbF_len hi hN ms (ordF O m)
    omega
theorem ords_ok {rM : Int} : ∀ (ms : List Mv) (O S' : List Int), MvOk M ms → OrdOk M O → endP M rM (sortI O) ms = some S' → OrdOk M (ms.foldl ordF O) ∧ S' = sortI (ms.foldl ordF O)
  | [], O, S', _, hO, h => by cases h; exact ⟨hO, rfl⟩
  | m :: ms, O, S', hm, hO, h => by
    rw [endP] at h
    cases hf : fault M rM (sortI O) m.1 m.2 with
    | some x => rw [hf] at h; cases h
    | none =>
      rw [hf] at h
      dsimp only at h
      obtain ⟨h1, e⟩ := ord_ok hO (hm m (by simp)) hf
      rw [e] at h
      exact ords_ok ms (ordF O m) S' (fun x hx => hm x (List.mem_cons_of_mem _ hx)) h1 h
theorem end_split {rM : Int} {a b : List Mv} {m : Mv} {S S' : List Int} (h : endP M rM S (a ++ m :: b) = some S') : ∃ S1, endP M rM S a = some S1 ∧ fault M rM S1 m.1 m.2 = none := by
  rw [endP_append] at h
  obtain ⟨S1, h1, h2⟩ := Option.bind_eq_some_iff.mp h
  refine ⟨S1, h1, ?_⟩
  rw [endP] at h2
  cases hf : fault M rM S1 m.1 m.2 with
  | none => rfl
  | some x => rw [hf] at h2; cases h2
theorem plan_behind_ok {ms : List Mv} {rM : Int} {S' : List Int} (hi : InsOk N M ins) (hN : netOk N) (hl : N.length ≤ 100) (hm : M.length ≤ 1000) (hmv : MvOk M ms) (hml : ms.length ≤ 1000) (he : endP M rM [] ms = some S') :
    d_plan_behind [netD N, netD M, insD ins, .lst false (ms.map mvD)] st = .ok (.lst true ((pbF N ins [] ms).map mvD)) st := by
  suffices hs : Rb (d_plan_behind [netD N, netD M, insD ins, .lst false (ms.map mvD)] st) fun d st' => d = .lst true ((pbF N ins [] ms).map mvD) ∧ st' = st by
    obtain ⟨d, st', e, rfl, rfl⟩ := Rb_iff.mp hs
    exact e
  rw [d_plan_behind]; refine Rb.of ?_
  unfold g_plan_behind
  have e := numbers_ok (st := st) hi (by omega) hm
  generalize hL : ((rg 0 (M.length : Int)).map (nuF N.length ins)).map D.int = L at e
  have hLs : shrL L = true := by rw [← hL]; simp
  have hLf : frzL L = L := by rw [← hL]; simp
  have hLix : ∀ (o : Bool) k, 0 ≤ k → k < (M.length : Int) → opIxA [.lst o L, .int k] = some (.int (nuF N.length ins k)) := fun o k h0 h1 => by
    rw [opIxA_l o k hLs, ← hL, atI_map, atI_map, rg_atI h0 h1]; rfl
  simp [e, dictZ_ok hi.nod]
  refine ob_for (fun pre ρ => ρ = ⟨[.sh (netD N), .sh (netD M), .sh (insD ins), .sh (.lst false (ms.map mvD)), .ow (.lst true L), .ow (dI .int true ins), .ow (thD ((pre.foldl ordF []).map (nuF N.length ins))), .ow (.lst true ((pbF N ins [] pre).map mvD)), .no, .no, .no, .no], st⟩) rfl ?_ ?_
  · rintro pre ⟨m, w⟩ post _ hx rfl
    have hmem : ((m, w) : Mv) ∈ ms := by rw [hx]; simp
    obtain ⟨hd, w0, w1⟩ := hmv _ hmem
    rw [hx] at he
    obtain ⟨S1, he1, hf⟩ := end_split he
    obtain ⟨hO, e1⟩ := ords_ok pre [] S1 (fun x hx' => hmv x (by rw [hx]; simp [hx'])) ⟨by simp, by simp⟩ he1
    subst e1
    generalize hOO : pre.foldl ordF [] = O at hO hf
    have hsnoc : (pre ++ [(m, w)]).foldl ordF [] = ordF O (m, w) := by rw [List.foldl_append, hOO]; rfl
    have hpb : pbF N ins [] (pre ++ [(m, w)]) = pbF N ins [] pre ++ pieceF N ins O (m, w) := by rw [pbF_append, hOO]; simp [pbF]
    have hb1 : N.length * (N.length + 1) + 1 ≤ 10101 := by
      have := Nat.mul_le_mul hl (show N.length + 1 ≤ 101 by omega)
      omega
    have hll : (pbF N ins [] pre).length ≤ 10101000 := by
      have h1 := pbF_len hi hN pre []
      have h2 : pre.length ≤ 1000 := by
        have := congrArg List.length hx
        simp at this
        omega
      have h3 := Nat.mul_le_mul h2 hb1
      omega
    refine ⟨_, by simp; rfl, ?_⟩
    have hplen := piece_len hi hN O (m, w)
    have hplen2 : (pieceF N ins O (m, w)).length ≤ 10101 := by omega
    have hnn := map_nodup hi hO.nd hO.rg
    have hext : ∀ o, moExt ((pbF N ins [] pre).map mvD) (.lst o ((pieceF N ins O (m, w)).map mvD)) = some ((pbF N ins [] (pre ++ [(m, w)])).map mvD) := fun o => by
      unfold moExt
      dsimp only
      rw [if_pos (by rw [sizeLine_eq]; simp; omega), hpb, List.map_append]
    dsimp only at hd w0 w1
    have hOl : O.length ≤ 1000 := by
      have := sorted_len (a := 0) (b := M.length) (xs := sortI O) (sortI_strict hO.nd) (fun x hx => hO.rg x (mem_sI.mp hx))
      rw [len_sI] at this
      omega
    rw [hsnoc]
    have dne : ¬ ("do" : Str) = "clear" := by decide
    have cne : ¬ ("clear" : Str) = "do" := by decide
    rcases hd with rfl | rfl
    · have hw : w ∉ O := fun z => (fault_do_iff.mp hf).1 (mem_sI.mpr z)
      have hnw : nuF N.length ins w ∉ O.map (nuF N.length ins) := fun z => hw ((mem_map_nu hi hO.rg w0).mp z)
      have e2 : ordF O ("do", w) = O ++ [w] := rfl
      have hst : ∀ vs : List Sv, stk 6 (.bl true) ⟨vs, st⟩ (((O.map (nuF N.length ins)).map fun x => (x, ())).map fun p => Sum.inl p.1) (((O.map (nuF N.length ins)).map fun x => (x, ())).map fun p => uD p.2) (some (.inl (nuF N.length ins w))) = .ok .nx ⟨vs.set 6 (.ow (thD ((ordF O ("do", w)).map (nuF N.length ins)))), st⟩ := fun vs => by
        have := stk_int uD (m := (O.map (nuF N.length ins)).map fun x => (x, ())) (k := nuF N.length ins w) (v := ()) (i := 6) (vs := vs) (st := st) (by rw [th_keys]; exact hnn) (by rw [sizeLine_eq]; simp; omega)
        rw [th_put hnw] at this
        rw [e2, List.map_append]
        exact this
      simp only [List.map_map] at hst
      cases hu : un ins w with
      | true =>
        have hk : ¬ w ∈ keysA ins := by simpa [un] using hu
        have hp : pieceF N ins O ("do", w) = [(("do" : Str), nuF N.length ins w)] := by unfold pieceF; rw [un_get hu]
        have hext' : ∀ o, moExt ((pbF N ins [] pre).map mvD) (.lst o [.tup [.str "do", .int (nuF N.length ins w)]]) = some ((pbF N ins [] (pre ++ [(("do" : Str), w)])).map mvD) := fun o => by
          have := hext o
          rw [hp] at this
          exact this
        simp [hLix true w w0 w1, hk, hext', dne, hst]
      | false =>
        obtain ⟨v, hv, hk⟩ := un_not hu
        have hvr := hi.w _ (getA_in hv)
        have e3 := plain_ok (N := N) (A := [v]) (st := st) hN (fun a ha => by simp at ha; subst ha; exact hvr) (by omega)
        have e3' : d_plain_plan [netD N, .tup [.int v]] st = .ok (.lst true ((pl1 N v).map mvD)) st := e3
        have hix : opIxA [dI D.int true ins, .int w] = some (.int v) := opIxA_d hv rfl
        have hp : pieceF N ins O ("do", w) = (pl1 N v).filter fun x => !decide (x.2 ∈ O.map (nuF N.length ins)) := by
          unfold pieceF
          rw [hv]
          dsimp only
          rw [if_pos rfl]
        simp [hLix true w w0 w1, hk, hix, e3']
        rw [lc_fm (fun x : Mv => !decide (x.2 ∈ O.map (nuF N.length ins))) mvD (by
          rintro ⟨a, b⟩ hx
          have ht := th_in true (O.map (nuF N.length ins)) b
          by_cases c : b ∈ O.map (nuF N.length ins)
          · simp [mvD, ht, c]
          · simp [mvD, ht, c])]
        rw [← hp]
        simp [hext, dne, hLix true w w0 w1, hst]
    · have hw : w ∈ O := by
        unfold fault at hf
        simp at hf
        exact mem_sI.mp hf
      have e2 : ordF O ("clear", w) = O.erase w := if_neg (show ¬ (("clear" : Str) = "do") by decide)
      have hp : pieceF N ins O ("clear", w) = [(("clear" : Str), nuF N.length ins w)] := by
        unfold pieceF
        dsimp only
        split
        · rw [if_neg (by decide)]
        · rfl
      have hext' : ∀ o, moExt ((pbF N ins [] pre).map mvD) (.lst o [.tup [.str "clear", .int (nuF N.length ins w)]]) = some ((pbF N ins [] (pre ++ [(("clear" : Str), w)])).map mvD) := fun o => by
        have := hext o
        rw [hp] at this
        exact this
      have hnm := (mem_map_nu (ins := ins) hi hO.rg w0).mpr hw
      have hdp : ∀ vs : List Sv, dpK2 6 (.int (nuF N.length ins w)) ⟨vs, st⟩ (some (.ow (thD (O.map (nuF N.length ins))))) = .ok (.bl true) ⟨vs.set 6 (.ow (thD ((ordF O ("clear", w)).map (nuF N.length ins)))), st⟩ := fun vs => by
        have := dpop_d (f := uD) (m := (O.map (nuF N.length ins)).map fun x => (x, ())) (k := nuF N.length ins w) (v := ()) (i := 6) (vs := vs) (st := st) (th_get hnm)
        rw [th_drop hnn] at this
        have hme : (O.map (nuF N.length ins)).erase (nuF N.length ins w) = (O.erase w).map (nuF N.length ins) := by
          rw [erase_filter hnn, erase_filter hO.nd, List.filter_map]
          congr 1
          refine List.filter_congr fun x hx => ?_
          by_cases c : x = w
          · subst c; simp
          · have : ¬ nuF N.length ins x = nuF N.length ins w := fun e => c (nuF_inj hi (hO.rg x hx).1 w0 e)
            simp [c, this]
        rw [hme] at this
        rw [e2]
        exact this
      simp [hLix true w w0 w1, cne, hext', hdp]
  · rintro _ rfl
    simp
end Bh

namespace Bh
open PySem Fw L2 Cm Tp
variable {N M : List (List Int)} {st : RSt} {ins : Ins}
theorem len_lc {T : List (List Int)} {vs : List Sv} {st : RSt} {i : Nat} (h : (i = 2 ∧ ∃ a b, vs = [.sh a, .sh b, .no]) ∨ (i = 7 ∧ ∃ a b c d e f g, vs = [a, b, c, d, e, f, g, .no])) : lcL (tgN i) evYes (evOp [(.var i)] opLen) [i] (T.map tI) ⟨vs, st⟩ = .ok ((T.map fun x => (x.length : Int)).map .int) ⟨vs, st⟩ := by
  rw [lc_map (fun x : List Int => D.int x.length)]
  · simp
  · intro x hx
    rcases h with ⟨rfl, a, b, rfl⟩ | ⟨rfl, a, b, c, d, e, f, g, rfl⟩ <;> simp
theorem prog_most_ok {N : List (List Int)} {ms : List Mv} {st : RSt} (hm : ∀ m ∈ ms, 0 ≤ m.2 ∧ m.2 < N.length) (hl : ms.length < 900000) : d_most_of [netD N, .lst false (ms.map mvD)] st = match (runP N N.length [] ms).2 with | none => .ok (.int (mostN ([] :: (runP N N.length [] ms).1))) st | some w => .ex (exB ((runP N N.length [] ms).1.length : Nat) w) st := by
  rw [d_most_of, fnRes_eq]
  unfold g_most_of
  have e2 := prog_played_ok (N := N) (rooms := N.length) (ms := ms) (o := true) (st := st) hm hl
  cases hw : (runP N N.length [] ms).2 with
  | none =>
    rw [hw] at e2
    simp only at e2
    simp [e2]
    have := len_lc (T := [] :: (runP N N.length [] ms).1) (vs := [.sh (netD N), .sh (.lst false (ms.map mvD)), .no]) (st := st) (.inl ⟨rfl, _, _, rfl⟩)
    rw [List.map_cons] at this
    have hmx := opMaxL_i true (xs := (([] :: (runP N N.length [] ms).1).map fun x => (x.length : Int))) (by simp)
    simp at hmx
    simp [this, hmx, mostN]
  | some w =>
    rw [hw] at e2
    simp only at e2
    simp [e2]
theorem clear_len {r : Int} {S : List Int} {w : Int} (hS : S.Nodup) (hf : fault N r S "clear" w = none) : ((behindF S ("clear", w)).length : Int) = S.length - 1 := by
  have hw : w ∈ S := by
    unfold fault at hf
    simp at hf
    exact hf
  rw [beh_clear, ← erase_filter hS, List.length_erase_of_mem hw]
  have := List.length_pos_of_mem hw
  omega
theorem end_room {r : Int} : ∀ {ms : List Mv} {S S' : List Int}, MvOk N ms → needsOk N.length S → endP N r S ms = some S' → endP N N.length S ms = some S'
  | [], S, S', _, _, h => h
  | (m, w) :: ms, S, S', hm, hS, h => by
    rw [endP] at h ⊢
    obtain ⟨hd, w0, w1⟩ := hm (m, w) (by simp)
    dsimp only at hd w0 w1
    cases hf : fault N r S m w with
    | some x => rw [hf] at h; cases h
    | none =>
      rw [hf] at h
      dsimp only at h
      have hmd : m = "do" → w ∉ S := fun e => by subst e; exact (fault_do_iff.mp hf).1
      have hf2 : fault N N.length S m w = none := by
        rcases hd with rfl | rfl
        · obtain ⟨a, b, c⟩ := fault_do_iff.mp hf
          exact fault_do_iff.mpr ⟨a, b, by have := room_left hS w0 w1 a; omega⟩
        · rw [← hf]; exact fault_clear_r
      rw [hf2]
      exact end_room (fun x hx => hm x (List.mem_cons_of_mem _ hx)) (behind_needs (m := (m, w)) hS w0 w1 hmd) h
noncomputable def mostP (N : List (List Int)) (ms : List Mv) : Int := mostN ([] :: (runP N N.length [] ms).1)
noncomputable def roomsF (N M : List (List Int)) (ins : Ins) (ms : List Mv) : Int := if ins = [] then mostP M ms else maxI (ins.map fun p => mostP N (pl1 N p.2)) + mostP M ms - 1
theorem most_run {N : List (List Int)} {ms : List Mv} {S : List Int} (hm : MvOk N ms) (he : endP N N.length [] ms = some S) (hl : ms.length < 900000) : d_most_of [netD N, .lst false (ms.map mvD)] st = .ok (.int (mostP N ms)) st := by
  rw [prog_most_ok (fun m h => (hm m h).2) hl, (endP_run he).1]
  rfl
theorem pl1_long (hN : netOk N) (hl : N.length ≤ 100) {w : Int} (w0 : 0 ≤ w) (w1 : w < N.length) : (pl1 N w).length < 900000 := by
  have h1 := pl1_len hN w0 w1
  have := Nat.mul_le_mul hl (show N.length + 1 ≤ 101 by omega)
  omega
theorem pl1_ok (hN : netOk N) (hl : N.length ≤ 100) {w : Int} (w0 : 0 ≤ w) (w1 : w < N.length) : d_plain_plan [netD N, tI [w]] st = .ok (.lst true ((pl1 N w).map mvD)) st := plain_ok hN (fun a ha => by simp at ha; subst ha; exact ⟨w0, w1⟩) (by omega)
theorem rooms_ok {ms : List Mv} {S : List Int} (hi : InsOk N M ins) (hN : netOk N) (hl : N.length ≤ 100) (hM : M.length ≤ 1000) (hm : MvOk M ms) (he : endP M M.length [] ms = some S) (hml : ms.length < 900000) : d_rooms_behind [netD N, netD M, insD ins, .lst false (ms.map mvD)] st = .ok (.int (roomsF N M ins ms)) st := by
  rw [d_rooms_behind, fnRes_eq]
  unfold g_rooms_behind
  have e1 := most_run (st := st) hm he hml
  have e1' : ∀ o, o = false → d_most_of [netD M, .lst o (ms.map mvD)] st = .ok (.int (mostP M ms)) st := fun o h => by subst h; exact e1
  unfold roomsF
  by_cases c : ins = []
  · subst c
    have hz : insD [] = .tz [] := rfl
    simp [hz, e1]
  · have hz : ∀ ρ, sqZK (.ok (insD ins) ρ) = .ok (ins.map prD) ρ := fun ρ => sqZK_ok (by simp) (by have := hi.len; simp; omega)
    have hlz : opLenZ [insD ins] = some (.int ins.length) := by unfold insD; simp
    simp [hlz, c, hz]
    rw [lc_map (fun p : Int × Int => D.int (mostP N (pl1 N p.2))) (by
      rintro ⟨s, w⟩ hp
      have hw := hi.w _ hp
      have e2 := pl1_ok (st := st) hN hl hw.1 hw.2
      have e3 := most_run (st := st) (pl1_mv hN hw.1 hw.2) (pl1_end hN hw.1 hw.2) (pl1_long hN hl hw.1 hw.2)
      have e2' : d_plain_plan [netD N, .tup [.int w]] st = .ok (.lst true ((pl1 N w).map mvD)) st := e2
      simp [prD, e2', e3])]
    have hmx := opMaxL_i true (xs := ins.map fun p => mostP N (pl1 N p.2)) (by simp [c])
    have hmx' : opMaxL [.lst true (ins.map fun p => D.int (mostP N (pl1 N p.2)))] = some (.int (maxI (ins.map fun p => mostP N (pl1 N p.2)))) := by
      rw [← hmx, List.map_map]; rfl
    simp only [lstK_ok, opsK1_ok, evOps_nil, opsK2_ok, opK_ok, hmx']
    simp [e1]
theorem stand_le {r : Int} : ∀ {ms : List Mv} {S S' : List Int}, MvOk N ms → S.Nodup → endP N r S ms = some S' → (S.length : Int) ≤ r → ∀ T ∈ (runP N r S ms).1, (T.length : Int) ≤ r
  | [], S, S', _, _, _, _, T, hT => by rw [runP] at hT; cases hT
  | (m, w) :: ms, S, S', hm, hS, h, hl, T, hT => by
    rw [endP] at h
    rw [runP] at hT
    obtain ⟨hd, w0, w1⟩ := hm (m, w) (by simp)
    dsimp only at hd w0 w1
    cases hf : fault N r S m w with
    | some x => rw [hf] at h; cases h
    | none =>
      rw [hf] at h hT
      dsimp only at h hT
      have hb : ((behindF S (m, w)).length : Int) ≤ r := by
        rcases hd with rfl | rfl
        · have := (fault_do_iff.mp hf).2.2
          rw [len_do]; simp; omega
        · have := clear_len hS hf
          omega
      rcases List.mem_cons.mp hT with rfl | hT
      · exact hb
      · exact stand_le (fun x hx => hm x (List.mem_cons_of_mem _ hx)) (beh_nodup (m := (m, w)) hd hf hS) h hb T hT
theorem le_mostN {T : List (List Int)} {x : List Int} (h : x ∈ T) : (x.length : Int) ≤ mostN T := mostN_le (fun e => by rw [e] at h; cases h) (Int.le_refl _) x h
theorem mostP_nn (ms : List Mv) : 0 ≤ mostP N ms := by
  have := le_mostN (T := [] :: (runP N N.length [] ms).1) (x := []) (by simp)
  simpa [mostP] using this
theorem mostP_one (hN : netOk N) {w : Int} (w0 : 0 ≤ w) (w1 : w < N.length) : 1 ≤ mostP N (pl1 N w) := by
  obtain ⟨_, pre, e⟩ := endP_run (pl1_end hN w0 w1)
  have : [w] ∈ ([] :: (runP N N.length [] (pl1 N w)).1) := by rw [e]; simp
  have := le_mostN this
  simpa [mostP] using this
theorem le_maxI' : ∀ {xs : List Int} {x : Int}, x ∈ xs → x ≤ maxI xs
  | [y], x, h => by simp at h; subst h; simp [maxI]
  | y :: z :: ys, x, h => by
    rw [maxI]
    rcases List.mem_cons.mp h with rfl | h
    · omega
    · have := le_maxI' h
      omega
theorem piece_mv (hi : InsOk N M ins) (hN : netOk N) {O : List Int} {m : Mv} (hm : (m.1 = "do" ∨ m.1 = "clear") ∧ 0 ≤ m.2 ∧ m.2 < M.length) : MvOk (putF N M ins) (pieceF N ins O m) := by
  have hnu : ∀ m : Mv, (m.1 = "do" ∨ m.1 = "clear") ∧ 0 ≤ m.2 ∧ m.2 < M.length → MvOk (putF N M ins) [(m.1, nuF N.length ins m.2)] := fun m ⟨hd, h0, h1⟩ x hx => by
    simp at hx; subst hx
    have := nuF_bd hi h0 (j := cnt ins M.length) (cnt_mono h0 (by omega)) (fun hu => cnt_lt h0 h1 hu)
    exact ⟨hd, this.1, by rw [Bh.putF_len]; omega⟩
  intro x hx
  unfold pieceF at hx
  split at hx
  · rename_i w hw
    have hw := hi.w _ (getA_in hw)
    dsimp only at hw
    split at hx
    · have := pl1_mv hN hw.1 hw.2 x (List.mem_filter.mp hx).1
      exact ⟨this.1, this.2.1, by rw [Bh.putF_len]; omega⟩
    · exact hnu m hm x hx
  · exact hnu m hm x hx
theorem pbF_mv (hi : InsOk N M ins) (hN : netOk N) : ∀ {ms : List Mv} {O : List Int}, MvOk M ms → MvOk (putF N M ins) (pbF N ins O ms)
  | [], O, _ => by intro m hm; rw [pbF] at hm; cases hm
  | m :: ms, O, h => by
    rw [pbF]
    exact (piece_mv hi hN (h m (by simp))).append (pbF_mv hi hN fun x hx => h x (List.mem_cons_of_mem _ hx))
theorem behind_rooms (hi : InsOk N M ins) (hN : netOk N) (hM : netOk M) {ms : List Mv} {S : List Int} {r : Int} (hm : MvOk M ms) (he : endP M M.length [] ms = some S) (hr : roomsF N M ins ms ≤ r) :
    endP (putF N M ins) r [] (pbF N ins [] ms) = some (sortI (S.map (nuF N.length ins))) := by
  have hP := mostP_nn (N := M) ms
  have key := behind_run (r := r) (rM := M.length) (mM := (mostP M ms).toNat) (kN := fun w => (mostP N (pl1 N w)).toNat) hi hN hM ?_ ?_ ?_ ms [] S hm ⟨by simp, by simp⟩ he ?_
  · exact key
  · unfold roomsF at hr
    by_cases c : ins = []
    · rw [if_pos c] at hr; omega
    · rw [if_neg c] at hr
      obtain ⟨p, hp⟩ := List.exists_mem_of_ne_nil _ c
      have hw := hi.w _ hp
      have h1 := mostP_one hN hw.1 hw.2
      have h2 := le_maxI' (List.mem_map.mpr ⟨p, hp, rfl⟩ : mostP N (pl1 N p.2) ∈ ins.map fun p => mostP N (pl1 N p.2))
      omega
  · intro p hp T hT
    have := le_mostN (T := [] :: (runP N N.length [] (pl1 N p.2)).1) (x := T) (by simp [hT])
    unfold mostP
    omega
  · intro p hp
    unfold roomsF at hr
    rw [if_neg (fun c => by rw [c] at hp; cases hp)] at hr
    have h2 := le_maxI' (List.mem_map.mpr ⟨p, hp, rfl⟩ : mostP N (pl1 N p.2) ∈ ins.map fun p => mostP N (pl1 N p.2))
    have h3 := mostP_nn (N := N) (pl1 N p.2)
    omega
  · intro T hT
    have := le_mostN (T := [] :: (runP M M.length [] ms).1) (x := T) (by
      rw [List.mem_cons]
      exact .inr hT)
    unfold mostP
    omega
theorem roomsF_nn (hi : InsOk N M ins) (hN : netOk N) (ms : List Mv) : 0 ≤ roomsF N M ins ms := by
  have hP := mostP_nn (N := M) ms
  unfold roomsF
  split
  · exact hP
  · rename_i c
    obtain ⟨p, hp⟩ := List.exists_mem_of_ne_nil _ c
    have hw := hi.w _ hp
    have h1 := mostP_one hN hw.1 hw.2
    have h2 := le_maxI' (List.mem_map.mpr ⟨p, hp, rfl⟩ : mostP N (pl1 N p.2) ∈ ins.map fun p => mostP N (pl1 N p.2))
    omega
theorem behind_most (hi : InsOk N M ins) (hN : netOk N) (hM : netOk M) {ms : List Mv} {S : List Int} (hm : MvOk M ms) (he : endP M M.length [] ms = some S) :
    mostN ([] :: (runP (putF N M ins) (roomsF N M ins ms) [] (pbF N ins [] ms)).1) ≤ roomsF N M ins ms := by
  have h1 := behind_rooms hi hN hM hm he (Int.le_refl _)
  have h0 := roomsF_nn (M := M) hi hN ms
  obtain ⟨x, hx, e⟩ := mostN_mem (T := [] :: (runP (putF N M ins) (roomsF N M ins ms) [] (pbF N ins [] ms)).1) (by simp)
  rw [e]
  rcases List.mem_cons.mp hx with rfl | hx
  · simpa using h0
  · exact stand_le (pbF_mv hi hN hm) (by simp) h1 (by simpa using h0) x hx
end Bh

namespace Cv
open PySem Fw L2 Cm Co
inductive RkO (N : List (List Int)) (rooms : Int) : Nat → Nat → Prop
  | z : RkO N rooms 0 0
  | c {k s w : Nat} : RkO N rooms k s → w < N.length → RkO N rooms k (clrB s w)
  | d {k s w : Nat} : RkO N rooms k s → w < N.length → (cntO N.length s : Int) < rooms → s &&& msk N w = msk N w → RkO N rooms (k + 1) (mor s w)
theorem RkO.rch {N : List (List Int)} {rooms : Int} {k s : Nat} (h : RkO N rooms k s) : RchO N rooms s := by
  induction h with
  | z => exact .z
  | c h hw ih => exact .c ih hw
  | d h hw hc hm ih => exact .d ih hw hc hm
def Vl (m : List (Int × Int)) (s : Nat) : Int := (getA m (s : Int)).getD 0
theorem Vl_put (m : List (Int × Int)) (s t : Nat) (v : Int) : Vl (putA m (s : Int) v) t = if s = t then v else Vl m t := by
  unfold Vl
  rw [getA_put]
  by_cases c : s = t
  · subst c; simp
  · rw [if_neg (by omega), if_neg c]
structure Fd (N : List (List Int)) (rooms : Int) (k : Nat) (m : List (Int × Int)) (F : List Nat) : Prop where
  ks : keysA m = nI F
  nd : F.Nodup
  va : ∀ s ∈ F, ∃ v : Nat, getA m (s : Int) = some (v : Int) ∧ v ≤ k ∧ RkO N rooms v s
theorem Fd.rc {N : List (List Int)} {rooms : Int} {k : Nat} {m : List (Int × Int)} {F : List Nat} (h : Fd N rooms k m F) {s : Nat} (hs : s ∈ F) : RchO N rooms s := by
  obtain ⟨v, _, _, h3⟩ := h.va s hs
  exact h3.rch
theorem Fd.le {N : List (List Int)} {rooms : Int} {k : Nat} {m : List (Int × Int)} {F : List Nat} (h : Fd N rooms k m F) {s : Nat} (hs : s ∈ F) : Vl m s ≤ k := by
  obtain ⟨v, h1, h2, h3⟩ := h.va s hs
  unfold Vl; rw [h1]; simp; omega
theorem Fd.rk {N : List (List Int)} {rooms : Int} {k : Nat} {m : List (Int × Int)} {F : List Nat} (h : Fd N rooms k m F) {s j : Nat} (hs : s ∈ F) (hv : Vl m s = j) : RkO N rooms j s := by
  obtain ⟨v, h1, h2, h3⟩ := h.va s hs
  unfold Vl at hv; rw [h1] at hv; simp at hv
  have : v = j := by omega
  subst this; exact h3
theorem Fd.len {N : List (List Int)} {rooms : Int} {k : Nat} {m : List (Int × Int)} {F : List Nat} (h : Fd N rooms k m F) (hl : N.length ≤ 10) : F.length ≤ 2 ^ N.length ∧ m.length = F.length ∧ m.length ≤ 1024 := by
  have h1 := len_nI h.nd fun s hs => (h.rc hs).lt
  have h2 : m.length = F.length := by rw [← keys_len, h.ks]; simp
  have h3 : 2 ^ N.length ≤ 2 ^ 10 := Nat.pow_le_pow_right (by decide) hl
  omega
theorem Fd.mono {N : List (List Int)} {rooms : Int} {k k' : Nat} {m : List (Int × Int)} {F : List Nat} (h : Fd N rooms k m F) (hk : k ≤ k') : Fd N rooms k' m F := ⟨h.ks, h.nd, fun s hs => by
  obtain ⟨v, h1, h2, h3⟩ := h.va s hs
  exact ⟨v, h1, by omega, h3⟩⟩
theorem Fd.put {N : List (List Int)} {rooms : Int} {k : Nat} {m : List (Int × Int)} {F : List Nat} (h : Fd N rooms k m F) {s v : Nat} (hs : RkO N rooms v s) (hv : v ≤ k) (n : s ∉ F) : Fd N rooms k (putA m s v) (F ++ [s]) := by
  have hn : (s : Int) ∉ keysA m := by rw [h.ks, mem_nI]; exact n
  refine ⟨?_, ?_, fun t ht => ?_⟩
  · rw [keysA_put, if_neg hn, h.ks]; simp [nI]
  · rw [List.nodup_append]
    exact ⟨h.nd, by simp, fun a ha b hb => by simp at hb; subst hb; rintro rfl; exact n ha⟩
  · rw [getA_put]
    rcases List.mem_append.mp ht with ht | ht
    · rw [if_neg (by rintro z; exact n (by rwa [show s = t by omega]))]
      exact h.va t ht
    · simp at ht; subst ht
      exact ⟨v, by simp, hv, hs⟩
def Sb (m : List (Int × Int)) (F : List Nat) (m' : List (Int × Int)) (F' : List Nat) : Prop := ∀ s ∈ F, s ∈ F' ∧ Vl m' s = Vl m s
theorem Sb.refl {m : List (Int × Int)} {F : List Nat} : Sb m F m F := fun s h => ⟨h, rfl⟩
theorem Sb.trans {m m' m'' : List (Int × Int)} {F F' F'' : List Nat} (h : Sb m F m' F') (k : Sb m' F' m'' F'') : Sb m F m'' F'' := fun s hs => by
  obtain ⟨h1, h2⟩ := h s hs
  obtain ⟨k1, k2⟩ := k s h1
  exact ⟨k1, k2.trans h2⟩
theorem Sb.put {m : List (Int × Int)} {F : List Nat} {s : Nat} {v : Int} (n : s ∉ F) : Sb m F (putA m s v) (F ++ [s]) := fun t ht => ⟨List.mem_append_left _ ht, by rw [Vl_put, if_neg (by rintro rfl; exact n ht)]⟩
def Cd (N : List (List Int)) (m : List (Int × Int)) (F : List Nat) (s : Nat) : Prop := ∀ w < N.length, clrB s w ∈ F ∧ Vl m (clrB s w) ≤ Vl m s
def Dd (N : List (List Int)) (rooms : Int) (m : List (Int × Int)) (F : List Nat) (s : Nat) : Prop := (cntO N.length s : Int) < rooms → ∀ w < N.length, s &&& msk N w = msk N w → mor s w ∈ F ∧ Vl m (mor s w) ≤ Vl m s + 1
theorem Cd.mono {N : List (List Int)} {m m' : List (Int × Int)} {F F' : List Nat} {s : Nat} (b : Sb m F m' F') (hs : s ∈ F) (h : Cd N m F s) : Cd N m' F' s := fun w hw => by
  obtain ⟨h1, h2⟩ := h w hw
  obtain ⟨b1, b2⟩ := b _ h1
  exact ⟨b1, by rw [b2, (b s hs).2]; exact h2⟩
theorem Dd.mono {N : List (List Int)} {rooms : Int} {m m' : List (Int × Int)} {F F' : List Nat} {s : Nat} (b : Sb m F m' F') (hs : s ∈ F) (h : Dd N rooms m F s) : Dd N rooms m' F' s := fun hc w hw hm => by
  obtain ⟨h1, h2⟩ := h hc w hw hm
  obtain ⟨b1, b2⟩ := b _ h1
  exact ⟨b1, by rw [b2, (b s hs).2]; exact h2⟩
end Cv

namespace Cs
open PySem Fw L2 Cm Co Cv
variable {N : List (List Int)} {rooms : Int} {st : RSt}
def cE (p : Nat × Mv) : D := .tup [.int (p.1 : Int), mvD p.2]
def dO (m : Mv) : Nat := if m.1 = "do" then 1 else 0
theorem dO_clear (p : Int) : dO (("clear" : Str), p) = 0 := if_neg (by show ¬ (("clear" : Str) = "do"); decide)
theorem dO_do (p : Int) : dO (("do" : Str), p) = 1 := if_pos rfl
structure Sr (N : List (List Int)) (rooms : Int) (k : Nat) (m : List (Int × Int)) (cm : List (Int × (Nat × Mv))) (F : List Nat) : Prop where
  ks : keysA m = nI F
  kc : keysA cm = nI F.tail
  nd : F.Nodup
  zero : F[0]? = some 0 ∧ Vl m 0 = 0
  lt : ∀ b ∈ F, b < 2 ^ N.length
  va : ∀ s ∈ F, ∃ v : Nat, getA m (s : Int) = some (v : Int) ∧ v ≤ k
  back : ∀ (i b : Nat), 0 < i → F[i]? = some b → ∃ j a mv, j < i ∧ F[j]? = some a ∧ (mv, b) ∈ waysB N rooms a ∧ getA cm (b : Int) = some (a, mv) ∧ Vl m b = Vl m a + dO mv
theorem Sr.start : Sr N rooms 0 [(0, 0)] [] [0] where
  ks := rfl
  kc := rfl
  nd := by simp
  zero := ⟨rfl, rfl⟩
  lt := fun b hb => by simp at hb; subst hb; exact Nat.two_pow_pos _
  va := fun s hs => by simp at hs; subst hs; exact ⟨0, rfl, Nat.le_refl _⟩
  back := fun i b hi h => by
    have := (List.getElem?_eq_some_iff.mp h).1
    simp at this
    omega
theorem Sr.mono {k k' : Nat} {m : List (Int × Int)} {cm : List (Int × (Nat × Mv))} {F : List Nat} (h : Sr N rooms k m cm F) (hk : k ≤ k') : Sr N rooms k' m cm F := ⟨h.ks, h.kc, h.nd, h.zero, h.lt, fun s hs => by
  obtain ⟨v, h1, h2⟩ := h.va s hs
  exact ⟨v, h1, by omega⟩, h.back⟩
theorem Sr.le {k : Nat} {m : List (Int × Int)} {cm : List (Int × (Nat × Mv))} {F : List Nat} (h : Sr N rooms k m cm F) {s : Nat} (hs : s ∈ F) : Vl m s ≤ k := by
  obtain ⟨v, h1, h2⟩ := h.va s hs
  unfold Vl; rw [h1]; simp; omega
theorem Sr.get {k : Nat} {m : List (Int × Int)} {cm : List (Int × (Nat × Mv))} {F : List Nat} (h : Sr N rooms k m cm F) {s : Nat} (hs : s ∈ F) : getA m (s : Int) = some (Vl m s) := by
  obtain ⟨v, h1, h2⟩ := h.va s hs
  unfold Vl; rw [h1]; rfl
theorem Sr.len {k : Nat} {m : List (Int × Int)} {cm : List (Int × (Nat × Mv))} {F : List Nat} (h : Sr N rooms k m cm F) (hl : N.length ≤ 10) : F.length ≤ 2 ^ N.length ∧ m.length = F.length ∧ cm.length ≤ F.length ∧ F.length ≤ 1024 := by
  have h1 := len_nI h.nd fun s hs => h.lt s hs
  have h2 : m.length = F.length := by rw [← keys_len, h.ks]; simp
  have h4 : cm.length = F.tail.length := by rw [← keys_len, h.kc]; simp
  have h3 : 2 ^ N.length ≤ 2 ^ 10 := Nat.pow_le_pow_right (by decide) hl
  rw [List.length_tail] at h4
  omega
theorem Sr.mem {k : Nat} {m : List (Int × Int)} {cm : List (Int × (Nat × Mv))} {F : List Nat} (h : Sr N rooms k m cm F) {s : Nat} : (s : Int) ∈ keysA m ↔ s ∈ F := by
  rw [h.ks]; exact mem_nI
theorem Sr.memc {k : Nat} {m : List (Int × Int)} {cm : List (Int × (Nat × Mv))} {F : List Nat} (h : Sr N rooms k m cm F) {s : Nat} : (s : Int) ∈ keysA cm ↔ s ∈ F.tail := by
  rw [h.kc]; exact mem_nI
theorem Sr.put {k v : Nat} {m : List (Int × Int)} {cm : List (Int × (Nat × Mv))} {F : List Nat} (h : Sr N rooms k m cm F) {s a : Nat} {mv : Mv} (ha : a ∈ F) (hw : (mv, s) ∈ waysB N rooms a) (hv : (v : Int) = Vl m a + dO mv) (hk : v ≤ k) (n : s ∉ F) : Sr N rooms k (putA m s v) (putA cm s (a, mv)) (F ++ [s]) := by
  have hn : (s : Int) ∉ keysA m := fun z => n (h.mem.mp z)
  have hF : F ≠ [] := fun z => by have := h.zero.1; rw [z] at this; cases this
  have hnt : (s : Int) ∉ keysA cm := fun z => n (List.mem_of_mem_tail (h.memc.mp z))
  have h0 : s ≠ 0 := by rintro rfl; exact n (List.mem_of_getElem? h.zero.1)
  have hpos : 0 < F.length := List.length_pos_iff.mpr hF
  have ne : ∀ t ∈ F, s ≠ t := fun t ht => by rintro rfl; exact n ht
  refine ⟨?_, ?_, ?_, ⟨?_, ?_⟩, ?_, ?_, ?_⟩
  · rw [keysA_put, if_neg hn, h.ks]; simp [nI]
  · rw [keysA_put, if_neg hnt, h.kc, List.tail_append_of_ne_nil hF]; simp [nI]
  · rw [List.nodup_append]
    exact ⟨h.nd, by simp, fun a ha b hb => by simp at hb; subst hb; exact fun z => ne a ha z.symm⟩
  · rw [List.getElem?_append_left hpos]; exact h.zero.1
  · rw [Vl_put, if_neg h0]; exact h.zero.2
  · intro t ht
    rcases List.mem_append.mp ht with ht | ht
    · exact h.lt t ht
    · simp at ht; subst ht
      exact ways_lt (h.lt a ha) hw
  · intro t ht
    rw [getA_put]
    rcases List.mem_append.mp ht with ht | ht
    · rw [if_neg (by have := ne t ht; omega)]
      exact h.va t ht
    · simp at ht; subst ht
      exact ⟨v, by simp, hk⟩
  · intro i b hi hb
    obtain ⟨j0, hj0, ej0⟩ := List.getElem_of_mem ha
    by_cases c : i < F.length
    · rw [List.getElem?_append_left c] at hb
      obtain ⟨j, a2, mv2, h1, h2, h3, h4, h5⟩ := h.back i b hi hb
      have hbF := List.mem_of_getElem? hb
      refine ⟨j, a2, mv2, h1, by rw [List.getElem?_append_left (by omega)]; exact h2, h3, ?_, ?_⟩
      · rw [getA_put, if_neg (by have := ne b hbF; omega)]; exact h4
      · rw [Vl_put, Vl_put, if_neg (ne b hbF), if_neg (ne a2 (List.mem_of_getElem? h2))]; exact h5
    · have hi2 : i = F.length := by
        have := (List.getElem?_eq_some_iff.mp hb).1
        simp at this
        omega
      subst hi2
      simp at hb
      subst hb
      refine ⟨j0, a, mv, hj0, by rw [List.getElem?_append_left hj0, List.getElem?_eq_getElem hj0, ej0], hw, by rw [getA_put, if_pos rfl], ?_⟩
      rw [Vl_put, Vl_put, if_pos rfl, if_neg (ne a ha)]; exact hv
def CdS (N : List (List Int)) (rooms : Int) (m : List (Int × Int)) (F : List Nat) (s : Nat) : Prop := ∀ mv c, (mv, c) ∈ waysB N rooms s → mv.1 = "clear" → c ∈ F ∧ Vl m c ≤ Vl m s
def DdS (N : List (List Int)) (rooms : Int) (m : List (Int × Int)) (F : List Nat) (s : Nat) : Prop := ∀ mv c, (mv, c) ∈ waysB N rooms s → mv.1 = "do" → c ∈ F ∧ Vl m c ≤ Vl m s + 1
theorem CdS.mono {m m' : List (Int × Int)} {F F' : List Nat} {s : Nat} (b : Sb m F m' F') (hs : s ∈ F) (h : CdS N rooms m F s) : CdS N rooms m' F' s := fun mv c hw hm => by
  obtain ⟨h1, h2⟩ := h mv c hw hm
  obtain ⟨b1, b2⟩ := b _ h1
  exact ⟨b1, by rw [b2, (b s hs).2]; exact h2⟩
theorem DdS.mono {m m' : List (Int × Int)} {F F' : List Nat} {s : Nat} (b : Sb m F m' F') (hs : s ∈ F) (h : DdS N rooms m F s) : DdS N rooms m' F' s := fun mv c hw hm => by
  obtain ⟨h1, h2⟩ := h mv c hw hm
  obtain ⟨b1, b2⟩ := b _ h1
  exact ⟨b1, by rw [b2, (b s hs).2]; exact h2⟩
end Cs

namespace Cs
open PySem Fw L2 Cm Co Cv
variable {N : List (List Int)} {rooms : Int} {st : RSt}
theorem getA_in {m : List (Int × Int)} {k v : Int} (h : getA m k = some v) : (k, v) ∈ m := by
  induction m with
  | nil => cases h
  | cons p m ih =>
    obtain ⟨q, x⟩ := p
    unfold getA at h
    split at h
    · rename_i e; subst e; cases h; simp
    · exact List.mem_cons_of_mem _ (ih h)
structure Fin (N : List (List Int)) (rooms : Int) (m : List (Int × Int)) (cm : List (Int × (Nat × Mv))) (F : List Nat) : Prop where
  sr : ∃ k, Sr N rooms k m cm F
  cl : ∀ s ∈ F, ∀ mv c, (mv, c) ∈ waysB N rooms s → c ∈ F ∧ Vl m c ≤ Vl m s + dO mv
def LW (w : Nat) (m : List (Int × Int)) (F : List Nat) : Option Nat → Prop
  | none => ∀ s ∈ F, ¬ s &&& w = w
  | some b => b ∈ F ∧ b &&& w = w ∧ ∀ s ∈ F, s &&& w = w → Vl m b ≤ Vl m s
end Cs

namespace Cs
open PySem Fw L2 Cm Co Cv
variable {N : List (List Int)} {rooms : Int} {st : RSt}
inductive Rk (N : List (List Int)) (rooms : Int) : Nat → Nat → Prop
  | z : Rk N rooms 0 0
  | s {k b c : Nat} {mv : Mv} : Rk N rooms k b → (mv, c) ∈ waysB N rooms b → Rk N rooms (k + dO mv) c
theorem Rk.rch {k b : Nat} (h : Rk N rooms k b) : Rch N rooms b := by
  induction h with
  | z => exact .zero
  | s h w ih => exact .step ih w
theorem Rch.rk {b : Nat} (h : Rch N rooms b) : ∃ k, Rk N rooms k b := by
  induction h with
  | zero => exact ⟨0, .z⟩
  | step h w ih =>
    obtain ⟨k, hk⟩ := ih
    exact ⟨_, .s hk w⟩
theorem Rk.mono {r r' : Int} {k b : Nat} (hr : r ≤ r') (h : Rk N r k b) : Rk N r' k b := by
  induction h with
  | z => exact .z
  | s h w ih =>
    refine .s ih (way_iff.mpr ?_)
    obtain ⟨p, hp, h1 | ⟨h1, h2, h3⟩⟩ := way_iff.mp w
    · exact ⟨p, hp, .inl h1⟩
    · exact ⟨p, hp, .inr ⟨h1, by omega, h3⟩⟩
theorem RkO.rk (hN : netOk N) {k s : Nat} (h : RkO N rooms k s) : ∃ j, j ≤ k ∧ Rk N rooms j s := by
  induction h with
  | z => exact ⟨0, Nat.le_refl _, .z⟩
  | @c k s w h hw ih =>
    obtain ⟨j, hj, h1⟩ := ih
    rw [clrB_eq]
    split
    · rename_i hb
      have := Rk.s h1 (way_iff.mpr ⟨w, hw, .inl ⟨hb, rfl, rfl⟩⟩)
      rw [dO_clear] at this
      exact ⟨_, by omega, this⟩
    · exact ⟨j, hj, h1⟩
  | @d k s w h hw hc hm ih =>
    obtain ⟨j, hj, h1⟩ := ih
    by_cases c : s.testBit w = true
    · rw [mor_same c]; exact ⟨j, by omega, h1⟩
    · rw [cntO_eq] at hc
      rw [msk_eq hN hw] at hm
      have := Rk.s h1 (way_iff.mpr ⟨w, hw, .inr ⟨by simpa using c, hc, hm, rfl, rfl⟩⟩)
      rw [dO_do] at this
      exact ⟨j + 1, by omega, this⟩
theorem Sr.rk {k : Nat} {m : List (Int × Int)} {cm : List (Int × (Nat × Mv))} {F : List Nat} (h : Sr N rooms k m cm F) : ∀ (i b : Nat), F[i]? = some b → ∃ j : Nat, Vl m b = j ∧ Rk N rooms j b
  | i, b, e => by
    by_cases c : i = 0
    · subst c
      rw [h.zero.1] at e; cases e
      exact ⟨0, h.zero.2, .z⟩
    · obtain ⟨j, a, mv, h1, h2, h3, h4, h5⟩ := h.back i b (by omega) e
      obtain ⟨v, hv, hr⟩ := h.rk j a h2
      exact ⟨v + dO mv, by rw [h5, hv]; push_cast; rfl, .s hr h3⟩
theorem Fin.sound {m : List (Int × Int)} {cm : List (Int × (Nat × Mv))} {F : List Nat} (h : Fin N rooms m cm F) {s : Nat} (hs : s ∈ F) : ∃ j : Nat, Vl m s = j ∧ Rk N rooms j s := by
  obtain ⟨k, hk⟩ := h.sr
  obtain ⟨i, hi, e⟩ := List.getElem_of_mem hs
  exact hk.rk i s (by rw [List.getElem?_eq_getElem hi, e])
theorem Fin.all {m : List (Int × Int)} {cm : List (Int × (Nat × Mv))} {F : List Nat} (h : Fin N rooms m cm F) {k s : Nat} (hs : Rk N rooms k s) : s ∈ F ∧ Vl m s ≤ k := by
  induction hs with
  | z =>
    obtain ⟨k, hk⟩ := h.sr
    exact ⟨List.mem_of_getElem? hk.zero.1, by rw [hk.zero.2]; simp⟩
  | s h1 w ih =>
    obtain ⟨i1, i2⟩ := ih
    obtain ⟨j1, j2⟩ := h.cl _ i1 _ _ w
    exact ⟨j1, by push_cast; omega⟩
def LS (N : List (List Int)) (rooms : Int) (w : Nat) : Option Nat → Prop
  | none => ∀ k s, Rk N rooms k s → ¬ s &&& w = w
  | some k => (∃ s, Rk N rooms k s ∧ s &&& w = w) ∧ ∀ j s, Rk N rooms j s → s &&& w = w → k ≤ j
theorem LS.uniq {w : Nat} {a b : Option Nat} (h : LS N rooms w a) (k : LS N rooms w b) : a = b := by
  cases a with
  | none => cases b with
    | none => rfl
    | some b => obtain ⟨s, h1, h2⟩ := k.1; exact absurd h2 (h _ _ h1)
  | some a => cases b with
    | none => obtain ⟨s, h1, h2⟩ := h.1; exact absurd h2 (k _ _ h1)
    | some b =>
      obtain ⟨s, h1, h2⟩ := h.1
      obtain ⟨t, h3, h4⟩ := k.1
      have := h.2 _ _ h3 h4
      have := k.2 _ _ h1 h2
      congr 1; omega
theorem Fin.ls {m : List (Int × Int)} {cm : List (Int × (Nat × Mv))} {F : List Nat} {w : Nat} {r : Option Nat} (h : Fin N rooms m cm F) (hr : LW w m F r) : LS N rooms w (r.map fun b => (Vl m b).toNat) := by
  cases r with
  | none => exact fun k s hs => hr s (h.all hs).1
  | some b =>
    obtain ⟨h1, h2, h3⟩ := hr
    obtain ⟨j, hj, hk⟩ := h.sound h1
    have e : (Vl m b).toNat = j := by omega
    show LS N rooms w (some (Vl m b).toNat)
    refine ⟨⟨b, by rw [e]; exact hk, h2⟩, fun i s hs hw => ?_⟩
    obtain ⟨i1, i2⟩ := h.all hs
    have := h3 s i1 hw
    omega
theorem LS.ex (hN : netOk N) (hl : N.length ≤ 10) (rooms : Int) (w : Nat) : ∃ r, LS N rooms w r := by
  by_cases c : ∃ k s, Rk N rooms k s ∧ s &&& w = w
  · obtain ⟨k, hk⟩ := c
    have : ∀ n k, k ≤ n → (∃ s, Rk N rooms k s ∧ s &&& w = w) → ∃ r, LS N rooms w r := fun n => by
      induction n with
      | zero =>
        intro k hk h
        have : k = 0 := by omega
        subst this
        exact ⟨some 0, h, fun j s _ _ => Nat.zero_le _⟩
      | succ n ih =>
        intro k hk h
        by_cases c : ∃ j s, j < k ∧ Rk N rooms j s ∧ s &&& w = w
        · obtain ⟨j, s, h1, h2, h3⟩ := c
          exact ih j (by omega) ⟨s, h2, h3⟩
        · exact ⟨some k, h, fun j s h1 h2 => Nat.le_of_not_lt fun z => c ⟨j, s, z, h1, h2⟩⟩
    exact this k k (Nat.le_refl _) hk
  · exact ⟨none, fun k s h1 h2 => c ⟨k, s, h1, h2⟩⟩
theorem Rk.done (hN : netOk N) {k s : Nat} (h : Rk N rooms k s) : ∃ T : List Int, T.Nodup ∧ T.length ≤ k ∧ (∀ p : Nat, s.testBit p = true → (p : Int) ∈ T) ∧ ∀ u ∈ T, ∀ v ∈ nd N u, v ∈ T := by
  induction h with
  | z => exact ⟨[], by simp, by simp, by simp, by simp⟩
  | @s k b c mv h w ih =>
    obtain ⟨T, h1, h2, h3, h4⟩ := ih
    obtain ⟨p, hp, ⟨q1, rfl, rfl⟩ | ⟨q1, q2, q3, rfl, rfl⟩⟩ := way_iff.mp w
    · rw [dO_clear]
      refine ⟨T, h1, h2, fun x hx => h3 x ?_, h4⟩
      rw [Nat.testBit_xor, Nat.testBit_two_pow] at hx
      by_cases e : p = x
      · subst e; exact q1
      · simpa [e] using hx
    · rw [dO_do]
      by_cases c : (p : Int) ∈ T
      · refine ⟨T, h1, by omega, fun x hx => ?_, h4⟩
        rw [Nat.testBit_or, Nat.testBit_two_pow] at hx
        by_cases e : p = x
        · subst e; exact c
        · exact h3 x (by simpa [e] using hx)
      · refine ⟨(p : Int) :: T, List.nodup_cons.mpr ⟨c, h1⟩, by simp; omega, fun x hx => ?_, fun u hu v hv => ?_⟩
        · rw [Nat.testBit_or, Nat.testBit_two_pow] at hx
          by_cases e : p = x
          · subst e; simp
          · exact List.mem_cons_of_mem _ (h3 x (by simpa [e] using hx))
        · rcases List.mem_cons.mp hu with rfl | hu
          · have hn := nd_ok hN (o := (p : Int)) (by omega) (by omega)
            have hv2 := hn.2 v hv
            have := sub_bits.mp q3 v.toNat (by rw [nbB_bit fun u hu => (hn.2 u hu).1, show ((v.toNat : Nat) : Int) = v by omega]; simpa using hv)
            have := h3 _ this
            rw [show ((v.toNat : Nat) : Int) = v by omega] at this
            exact List.mem_cons_of_mem _ this
          · exact List.mem_cons_of_mem _ (h4 u hu v hv)
theorem Rk.need_le (hN : netOk N) {A : List Int} (hA : needsOk N.length A) {k s : Nat} (h : Rk N rooms k s) (hs : s &&& nbB A = nbB A) : (need N A).length ≤ k := by
  obtain ⟨T, h1, h2, h3, h4⟩ := h.done hN
  refine Nat.le_trans (nodup_sub (sorted_nodup (need_sorted N A)) fun u hu => ?_) h2
  replace hu := (mem_need hN hA.2).mp hu
  induction hu with
  | ask h =>
    rename_i a
    have ha := hA.2 a h
    have := sub_bits.mp hs a.toNat (by rw [nbB_bit fun u hu => (hA.2 u hu).1, show ((a.toNat : Nat) : Int) = a by omega]; simpa using h)
    have := h3 _ this
    rwa [show ((a.toNat : Nat) : Int) = a by omega] at this
  | need h1 h2 ih => exact h4 _ ih _ h2
theorem Rk.rise (hN : netOk N) {W : List Int} (hW : needsOk N.length W) (hc : ∀ u ∈ W, ∀ v ∈ nd N u, v ∈ W) (hr : (W.length : Int) ≤ rooms) : ∀ k, k ≤ W.length → Rk N rooms k (nbB (W.take k))
  | 0, _ => .z
  | k + 1, hk => by
    have ih := Rk.rise hN hW hc hr k (by omega)
    have hk' : k < W.length := by omega
    obtain ⟨p, hp⟩ := Int.eq_ofNat_of_zero_le (hW.2 W[k] (List.getElem_mem _)).1
    have hpl := (hW.2 W[k] (List.getElem_mem _)).2
    have hpos : ∀ j, ∀ u ∈ W.take j, 0 ≤ u := fun j u hu => (hW.2 u (List.mem_of_mem_take hu)).1
    have lt : ∀ (u : Int), u ∈ W.take k ↔ u ∈ W ∧ u < W[k] := fun u => by
      constructor
      · intro hu
        obtain ⟨j, hj, rfl⟩ := List.getElem_of_mem hu
        rw [List.length_take] at hj
        rw [List.getElem_take]
        exact ⟨List.getElem_mem _, List.pairwise_iff_getElem.mp hW.1 j k (by omega) hk' (by omega)⟩
      · rintro ⟨hu, h2⟩
        obtain ⟨j, hj, rfl⟩ := List.getElem_of_mem hu
        have hjk : j < k := by
          apply Decidable.byContradiction
          intro z
          rcases Nat.lt_or_eq_of_le (Nat.le_of_not_lt z) with h | h
          · have := List.pairwise_iff_getElem.mp hW.1 k j hk' hj h
            omega
          · subst h; omega
        rw [List.mem_iff_getElem?]
        exact ⟨j, by rw [List.getElem?_take_of_lt hjk, List.getElem?_eq_getElem hj]⟩
    have hbit : ∀ x : Nat, (nbB (W.take k)).testBit x = decide ((x : Int) ∈ W ∧ (x : Int) < W[k]) := fun x => by
      rw [nbB_bit (hpos k)]
      exact decide_eq_decide.mpr (lt _)
    have e : nbB (W.take (k + 1)) = nbB (W.take k) ||| 2 ^ p := by
      refine Nat.eq_of_testBit_eq fun x => ?_
      rw [Nat.testBit_or, nbB_bit (hpos (k + 1)), nbB_bit (hpos k), Nat.testBit_two_pow, List.take_succ, List.getElem?_eq_getElem hk', hp, Bool.eq_iff_iff]
      simp only [decide_eq_true_eq, Bool.or_eq_true, List.mem_append, Option.toList_some, List.mem_singleton]
      constructor
      · rintro (h | h)
        · exact .inl h
        · exact .inr (by omega)
      · rintro (h | h)
        · exact .inl h
        · exact .inr (by omega)
    rw [e]
    have hnd := nd_ok hN (o := (p : Int)) (by omega) (by omega)
    have hlen : (onB N.length (nbB (W.take k))).length ≤ k := by
      have h1 : (onB N.length (nbB (W.take k))).map (fun x : Nat => (x : Int)) ⊆ W.take k := fun u hu => by
        obtain ⟨x, hx, rfl⟩ := List.mem_map.mp hu
        unfold onB at hx
        rw [List.mem_filter, nbB_bit (hpos k)] at hx
        simpa using hx.2
      have h2 : ((onB N.length (nbB (W.take k))).map (fun x : Nat => (x : Int))).Nodup := by
        rw [List.nodup_iff_pairwise_ne, List.pairwise_map]
        unfold onB
        exact (List.Pairwise.sublist List.filter_sublist (List.pairwise_lt_range)).imp fun h => by omega
      have := nodup_sub h2 h1
      rw [List.length_map, List.length_take] at this
      omega
    have := Rk.s (mv := (("do" : Str), (p : Int))) ih (way_iff.mpr ⟨p, by omega, .inr ⟨?_, by omega, ?_, rfl, rfl⟩⟩)
    · rwa [dO_do] at this
    · rw [hbit]; simp [hp]
    · refine sub_bits.mpr fun x hx => ?_
      rw [nbB_bit fun v hv => (hnd.2 v hv).1] at hx
      have hx := of_decide_eq_true hx
      rw [hbit]
      have h1 := hnd.2 _ hx
      have h2 := hc W[k] (List.getElem_mem _) (x : Int) (by rw [hp]; exact hx)
      rw [hp]
      simp
      exact ⟨h2, by omega⟩
theorem LS.full (hN : netOk N) {A : List Int} (hA : needsOk N.length A) (hr : (N.length : Int) ≤ rooms) : LS N rooms (nbB A) (some (need N A).length) := by
  have hW := need_needs hN hA.2
  have hl := need_len hN hA
  refine ⟨⟨nbB (need N A), ?_, ?_⟩, fun j s h1 h2 => h1.need_le hN hA h2⟩
  · have := Rk.rise hN hW (rooms := rooms) (fun u hu v hv => ?_) (by omega) (need N A).length (Nat.le_refl _)
    · rwa [List.take_length] at this
    · exact (mem_need hN hA.2).mpr (.need ((mem_need hN hA.2).mp hu) hv)
  · refine sub_bits.mpr fun p hp => ?_
    rw [nbB_bit fun u hu => (hA.2 u hu).1] at hp
    rw [nbB_bit fun u hu => (hW.2 u hu).1]
    simp only [decide_eq_true_eq] at hp ⊢
    exact (mem_need hN hA.2).mpr (.ask hp)
theorem LS.low (hN : netOk N) {A : List Int} (hA : needsOk N.length A) {k : Nat} (h : LS N rooms (nbB A) (some k)) : (need N A).length ≤ k := by
  obtain ⟨s, h1, h2⟩ := h.1
  exact h1.need_le hN hA h2
theorem LS.mono {w : Nat} {r r' : Int} {k : Nat} {o : Option Nat} (hr : r ≤ r') (h : LS N r w (some k)) (h' : LS N r' w o) : ∃ k', o = some k' ∧ k' ≤ k := by
  obtain ⟨s, h1, h2⟩ := h.1
  cases o with
  | none => exact absurd h2 (h' _ _ (h1.mono hr))
  | some k' => exact ⟨k', rfl, h'.2 _ _ (h1.mono hr) h2⟩
theorem LS.zero {w : Nat} (hw : w ≠ 0) : LS N 0 w none := by
  intro k s h
  have : s = 0 := by
    induction h with
    | z => rfl
    | s h w ih =>
      subst ih
      obtain ⟨p, hp, ⟨h1, _, _⟩ | ⟨_, h2, _⟩⟩ := way_iff.mp w
      · simp at h1
      · rw [onB_zero] at h2; simp at h2
  subst this
  rw [Nat.zero_and]
  exact fun z => hw z.symm
end Cs

namespace Cs
open PySem Fw L2 Cm Co Cv
variable {N : List (List Int)} {rooms : Int} {st : RSt}
theorem nbB_ne {A : List Int} (hA : needsOk N.length A) (h0 : A ≠ []) : nbB A ≠ 0 := fun z => by
  obtain ⟨a, as, rfl⟩ := List.exists_cons_of_ne_nil h0
  have ha := hA.2 a (by simp)
  have := nbB_bit (p := a.toNat) fun u hu => (hA.2 u hu).1
  rw [z, show ((a.toNat : Nat) : Int) = a by omega] at this
  simp at this
structure Stp (N : List (List Int)) (A : List Int) (f : Nat → Option Nat) (R : Nat) : Prop where
  ls : ∀ r : Nat, LS N r (nbB A) (f r)
  end_ : f R = some (need N A).length
  first : ∀ r < R, f r ≠ some (need N A).length
  le : R ≤ N.length
  pos : 1 ≤ R
theorem Stp.ex (hN : netOk N) (hl : N.length ≤ 10) {A : List Int} (hA : needsOk N.length A) (h0 : A ≠ []) : ∃ f R, Stp N A f R := by
  have : ∀ r : Nat, ∃ o, LS N r (nbB A) o := fun r => LS.ex hN hl _ _
  let f : Nat → Option Nat := fun r => (this r).choose
  have hf : ∀ r : Nat, LS N r (nbB A) (f r) := fun r => (this r).choose_spec
  have hend : f N.length = some (need N A).length := (hf _).uniq (LS.full hN hA (Int.le_refl _))
  have : ∀ n, f n = some (need N A).length → ∃ R, R ≤ n ∧ f R = some (need N A).length ∧ ∀ r < R, f r ≠ some (need N A).length := fun n => by
    induction n using Nat.strongRecOn with
    | ind n ih =>
      intro h
      by_cases c : ∃ r, r < n ∧ f r = some (need N A).length
      · obtain ⟨r, h1, h2⟩ := c
        obtain ⟨R, q1, q2, q3⟩ := ih r h1 h2
        exact ⟨R, by omega, q2, q3⟩
      · exact ⟨n, Nat.le_refl _, h, fun r hr z => c ⟨r, hr, z⟩⟩
  obtain ⟨R, h1, h2, h3⟩ := this _ hend
  refine ⟨f, R, hf, h2, h3, h1, Nat.pos_of_ne_zero fun z => ?_⟩
  subst z
  have := (hf 0).uniq (LS.zero (nbB_ne hA h0))
  rw [h2] at this; cases this
theorem Stp.gt (hN : netOk N) {A : List Int} (hA : needsOk N.length A) {f : Nat → Option Nat} {R : Nat} (h : Stp N A f R) {r k : Nat} (hr : r < R) (e : f r = some k) : (need N A).length < k := by
  have h1 := h.ls r
  rw [e] at h1
  have h2 := h1.low hN hA
  have h3 := h.first r hr
  rw [e] at h3
  rcases Nat.lt_or_eq_of_le h2 with z | z
  · exact z
  · exact absurd (congrArg some z.symm) h3
theorem last_at {α : Type} {xs : List α} (h : xs ≠ []) : atI xs (-1) = some (xs.getLast h) := by
  conv => lhs; rw [← List.dropLast_concat_getLast h]
  exact atI_last
end Cs

namespace Cs
open PySem Fw L2 Cm Co Cv
variable {N : List (List Int)} {rooms : Int} {st : RSt}
end Cs

namespace Cu
open PySem Fw L2 Cm Cs
variable {N : List (List Int)} {rooms : Int} {A : List Int} {st : RSt}
abbrev Rw := List Int × Int
structure RowsOk (N : List (List Int)) (rooms : Int) (m : List Rw) : Prop where
  wf : ∀ p ∈ m, needsOk N.length p.1 ∧ (p.1.length : Int) ≤ rooms ∧ 0 ≤ p.2
  nd : (keysTA m).Nodup
  len : m.length ≤ 4000
theorem RowsOk.key {m : List Rw} (h : RowsOk N rooms m) {z : List Int} (hz : z ∈ keysTA m) : needsOk N.length z ∧ (z.length : Int) ≤ rooms := by
  obtain ⟨p, hp, rfl⟩ := List.mem_map.mp hz
  exact ⟨(h.wf p hp).1, (h.wf p hp).2.1⟩
def lastS (T : List (List Int)) : List Int := (([] : List Int) :: T).getLast (by simp)
def dueF (N : List (List Int)) (r : Int) (ms : List Mv) (A : List Int) : Bool := (runP N r [] ms).2.isNone && A.all fun a => decide (a ∈ lastS (runP N r [] ms).1)
theorem last_T' (T : List (List Int)) : atI (tI [] :: T.map tI) (-1) = some (tI (lastS T)) := by
  have := Cs.last_at (xs := ([] : List Int) :: T) (by simp)
  have h2 := congrArg (Option.map tI) this
  rw [← atI_map] at h2
  exact h2
end Cu

namespace K69
open PySem Fw L2 Cm Bh Tp
variable {N M : List (List Int)} {st : RSt} {ins : Ins}
theorem filt_two {α : Type} (p : α → Bool) : ∀ xs : List α, (xs.filter p).length + (xs.filter fun x => !p x).length = xs.length
  | [] => rfl
  | x :: xs => by
    have := filt_two p xs
    cases h : p x <;> simp [h] <;> omega
theorem cnt_len (hi : InsOk N M ins) : cnt ins (M.length : Int) + ins.length = M.length := by
  have h1 : ((rg 0 (M.length : Int)).filter (un ins)).length + ((rg 0 (M.length : Int)).filter fun x => !un ins x).length = M.length := by
    have := filt_two (un ins) (rg 0 (M.length : Int))
    simp at this
    omega
  have h2 : (rg 0 (M.length : Int)).filter (fun x => !un ins x) = ins.map (·.1) := by
    refine strict_same ((rg_sorted _ _).sublist List.filter_sublist) hi.srt fun z => ?_
    rw [List.mem_filter, mem_rg]
    have hk : keysA ins = ins.map (·.1) := rfl
    constructor
    · rintro ⟨_, h⟩
      simp only [un, Bool.not_not, decide_eq_true_eq] at h
      exact h
    · intro h
      obtain ⟨p, hp, e⟩ := List.mem_map.mp h
      have := hi.s p hp
      subst e
      refine ⟨⟨this.1, this.2.1⟩, ?_⟩
      simp only [un, Bool.not_not, decide_eq_true_eq]
      exact h
  rw [h2, List.length_map] at h1
  exact h1
theorem nd_taken (hi : InsOk N M ins) {u : Int} (u0 : 0 ≤ u) (hu : un ins u = false) : nd M u = [] := by
  obtain ⟨w, hw, _⟩ := un_not hu
  have := (hi.s _ (getA_in hw)).2.2
  dsimp only at this
  have h2 := (nd_at this).1
  rwa [show ((u.toNat : Nat) : Int) = u by omega] at h2
theorem und_nu (hi : InsOk N M ins) (hM : netOk M) {w x : Int} (w0 : 0 ≤ w) (w1 : w < M.length) (h : Und M [w] x) : Und (Bh.putF N M ins) [nuF N.length ins w] (nuF N.length ins x) := by
  have hA : ∀ a ∈ [w], 0 ≤ a ∧ a < M.length := fun a ha => by simp at ha; subst ha; exact ⟨w0, w1⟩
  induction h with
  | ask h => simp at h; subst h; exact .ask (by simp)
  | need h k ih =>
    rename_i u x
    have hu := h.range hM hA
    cases hun : un ins u with
    | false => rw [nd_taken hi hu.1 hun] at k; cases k
    | true =>
      refine .need ih ?_
      rw [put_nd hu.1 hu.2 hun]
      exact mem_sI.mpr (List.mem_map.mpr ⟨x, k, rfl⟩)
theorem und_put (hi : InsOk N M ins) (hN : netOk N) (hM : netOk M) {w y : Int} (w0 : 0 ≤ w) (w1 : w < M.length) (h : Und (Bh.putF N M ins) [nuF N.length ins w] y) : (0 ≤ y ∧ y < N.length) ∨ ∃ x, Und M [w] x ∧ y = nuF N.length ins x := by
  have hA : ∀ a ∈ [w], 0 ≤ a ∧ a < M.length := fun a ha => by simp at ha; subst ha; exact ⟨w0, w1⟩
  induction h with
  | ask h => simp at h; subst h; exact .inr ⟨w, .ask (by simp), rfl⟩
  | need h k ih =>
    rename_i u y
    have hlow : 0 ≤ u → u < N.length → 0 ≤ y ∧ y < N.length := fun u0 u1 => by
      rw [put_nd_one u0 u1] at k
      have := (nd_needs hN u0 u1).2 y k
      omega
    rcases ih with ⟨u0, u1⟩ | ⟨x, hx, rfl⟩
    · exact .inl (hlow u0 u1)
    · have hxr := hx.range hM hA
      cases hun : un ins x with
      | false =>
        obtain ⟨v, hv, _⟩ := un_not hun
        have hw := hi.w _ (getA_in hv)
        rw [nuF_in hv] at hlow k
        exact .inl (hlow hw.1 hw.2)
      | true =>
        rw [put_nd hxr.1 hxr.2 hun] at k
        obtain ⟨z, hz, rfl⟩ := List.mem_map.mp (mem_sI.mp k)
        exact .inr ⟨z, .need hx hz, rfl⟩
theorem put_right (hi : InsOk N M ins) (hN : netOk N) (hM : netOk M) (n1 : 1 ≤ N.length) (hl : N.length ≤ 100) (hm : M.length ≤ 100) : d_law_put_right [netD N, netD M, insD ins] st = .ok (.bl true) st := by
  suffices hs : Rb (d_law_put_right [netD N, netD M, insD ins] st) fun d st' => d = .bl true ∧ st' = st by
    obtain ⟨d, st', e, rfl, rfl⟩ := Rb_iff.mp hs
    exact e
  rw [d_law_put_right]; refine Rb.of ?_
  unfold g_law_put_right
  have e1 := fun st => put_ok (st := st) hi (by omega) (by omega) hM
  have e6 : ∀ st k, 0 ≤ k → k < (M.length : Int) → d_number_behind [netD N, netD M, insD ins, .int k] st = .ok (.int (nuF N.length ins k)) st := fun st k h0 h1 => number_ok hi (by omega) (by omega) h0 h1
  have hP := putF_net hi hN hM
  have hPl := Bh.putF_len (N := N) (M := M) ins
  have hcl := cnt_len hi
  have hP0 : Bh.putF N M ins ≠ [] := fun z => by
    rw [z] at hPl
    simp only [List.length_nil] at hPl
    omega
  have e2 := fun st => Bh.is_net_ok (st := st) hP hP0
  have hcut : cutD ((Bh.putF N M ins).map tI) none (some (N.length : Int)) = N.map tI := by
    rw [cutD_hi (by omega), ← List.map_take]
    unfold Bh.putF
    simp
  have hll : opLenZ [insD ins] = some (.int ins.length) := by unfold insD; simp
  have hne : opNe [netD N, netD N] = some (.bl false) := opNe_sameT (k := 1) (xs := N.map tI) (by simp) (by decide)
  have hnum : ∀ k, 0 ≤ k → k < (M.length : Int) → 0 ≤ nuF N.length ins k ∧ nuF N.length ins k < (Bh.putF N M ins).length := fun k h0 h1 => by
    have := nuF_bd hi h0 (j := cnt ins M.length) (cnt_mono h0 (by omega)) (fun hu => cnt_lt h0 h1 hu)
    rw [hPl]; omega
  have hund : ∀ w x, 0 ≤ w → w < (M.length : Int) → x ∈ need M [w] → nuF N.length ins x ∈ need (Bh.putF N M ins) [nuF N.length ins w] := fun w x w0 w1 hx => by
    have hn := hnum w w0 w1
    have hA : ∀ a ∈ [w], 0 ≤ a ∧ a < M.length := fun a ha => by simp at ha; subst ha; exact ⟨w0, w1⟩
    have hA2 : ∀ a ∈ [nuF N.length ins w], 0 ≤ a ∧ a < (Bh.putF N M ins).length := fun a ha => by simp at ha; subst ha; exact hn
    exact (mem_need hP hA2).mpr (und_nu hi hM w0 w1 ((mem_need hM hA).mp hx))
  have hput : ∀ w y, 0 ≤ w → w < (M.length : Int) → y ∈ need (Bh.putF N M ins) [nuF N.length ins w] → y ∈ (need M [w]).map (nuF N.length ins) ∨ y < N.length := fun w y w0 w1 hy => by
    have hn := hnum w w0 w1
    have hA : ∀ a ∈ [w], 0 ≤ a ∧ a < M.length := fun a ha => by simp at ha; subst ha; exact ⟨w0, w1⟩
    have hA2 : ∀ a ∈ [nuF N.length ins w], 0 ≤ a ∧ a < (Bh.putF N M ins).length := fun a ha => by simp at ha; subst ha; exact hn
    rcases und_put hi hN hM w0 w1 ((mem_need hP hA2).mp hy) with h | ⟨x, hx, rfl⟩
    · exact .inr h.2
    · exact .inl (List.mem_map.mpr ⟨x, (mem_need hM hA).mpr hx, rfl⟩)
  generalize hPP : Bh.putF N M ins = P at e1 hP hPl hP0 e2 hcut hnum hund hput
  have hcut' : cutD (P.map fun x => D.tup (x.map fun x => .int x)) none (some (N.length : Int)) = N.map tI := hcut
  have hB : opIsNB [.bl true, .bl true] = some (.bl false) := rfl
  have hlen : (P.length : Int) = (N.length : Int) + M.length - ins.length := by rw [hPl]; omega
  have hne' : opNe [.tup (N.map tI), .tup (N.map fun x => D.tup (x.map fun x => .int x))] = some (.bl false) := hne
  simp [e1, e2, hB, hcut', hll, hne', hlen]
  rw [itRg1 (by omega) (by omega)]
  simp
  refine ob_for (fun pre ρ => ρ = ⟨[.sh (netD N), .sh (netD M), .sh (insD ins), .sh (netD P), .no, .no, .no, .no], st⟩) rfl ?_ ?_
  · rintro pre w post _ hx rfl
    refine ⟨_, rfl, ?_⟩
    have hwm : w ∈ rg 0 (M.length : Int) := by rw [hx]; simp
    rw [mem_rg] at hwm
    have hn := hnum w hwm.1 hwm.2
    have e3 : d_all_needed [netD M, .tup [.int w]] st = .ok (.lst true ((need M [w]).map .int)) st := all_needed_ok (A := [w]) hM (fun a ha => by simp at ha; subst ha; exact hwm) (by omega)
    have e4 : d_all_needed [netD P, .tup [.int (nuF N.length ins w)]] st = .ok (.lst true ((need P [nuF N.length ins w]).map .int)) st := all_needed_ok (A := [nuF N.length ins w]) hP (fun a ha => by simp at ha; subst ha; exact hn) (by omega)
    have hr := need_range hM (A := [w]) (fun a ha => by simp at ha; subst ha; exact hwm)
    simp [e3]
    rw [lc_map (fun x : Int => D.int (nuF N.length ins x)) (by
      intro x hx
      have := hr x hx
      simp [e6 _ x this.1 this.2])]
    have h1 := fun x => hund w x hwm.1 hwm.2
    have h2 := fun y => hput w y hwm.1 hwm.2
    simp [e6 _ w hwm.1 hwm.2, e4]
    generalize need P [nuF N.length ins w] = G at h1 h2
    obtain ⟨F, hF⟩ : ∃ F, F = (need M [w]).map (nuF N.length ins) := ⟨_, rfl⟩
    have hFD : (need M [w]).map (fun x => D.int (nuF N.length ins x)) = F.map D.int := by rw [hF, List.map_map]; rfl
    have h1' : ∀ x ∈ F, x ∈ G := fun x hx => by
      rw [hF] at hx
      obtain ⟨u, hu, rfl⟩ := List.mem_map.mp hx
      exact h1 u hu
    rw [← hF] at h2
    rw [hFD]
    clear hF hFD h1
    rw [lc_map (toD := D.int) (xs := F) (fun x : Int => D.bl (decide (x ∈ G))) (by
      intro x hx
      simp [h1' x hx])]
    have hall : F.all (fun x => decide (x ∈ G)) = true := List.all_eq_true.mpr fun x hx => by simp [h1' x hx]
    have ha1 : opAll [.lst true (F.map fun x => D.bl (decide (x ∈ G)))] = some (.bl true) := by
      rw [opAll_b (f := fun x => decide (x ∈ G)), hall]
    simp only [lstK_ok, opsK1_ok, evOps_nil, opsK2_ok, opK_ok, ha1]
    simp
    rw [lc_map (toD := D.int) (xs := G) (fun _ : Int => D.bl true) (by
      intro y hy
      by_cases c : y ∈ F
      · simp [c]
      · have hyl : y < N.length := (h2 y hy).resolve_left c
        simp [c, hyl])]
    have ha2 : opAll [.lst true (G.map fun _ => D.bl true)] = some (.bl true) := by
      rw [opAll_b (f := fun _ => true)]
      simp
    simp only [lstK_ok, opsK1_ok, evOps_nil, opsK2_ok, opK_ok, ha2]
    simp
  · rintro _ rfl
    simp
def shM (k : Int) (ms : List Mv) : List Mv := ms.map fun m => (m.1, k + m.2)
theorem pbF_nil : ∀ (ms : List Mv) (O : List Int), (∀ m ∈ ms, 0 ≤ m.2) → pbF N [] O ms = shM N.length ms
  | [], O, _ => rfl
  | m :: ms, O, h => by
    rw [pbF, pbF_nil ms _ fun x hx => h x (List.mem_cons_of_mem _ hx)]
    have : pieceF N [] O m = [(m.1, (N.length : Int) + m.2)] := by
      unfold pieceF
      rw [un_get (un_nil m.2)]
      dsimp only
      rw [nuF_nil (h m (by simp))]
    rw [this]
    rfl
theorem run_same {r1 r2 : Int} : ∀ {ms : List Mv} {S S1 S2 : List Int}, endP N r1 S ms = some S1 → endP N r2 S ms = some S2 → (runP N r1 S ms).1 = (runP N r2 S ms).1
  | [], S, S1, S2, _, _ => rfl
  | m :: ms, S, S1, S2, h1, h2 => by
    rw [endP] at h1 h2
    rw [runP, runP]
    cases hf : fault N r1 S m.1 m.2 with
    | some x => rw [hf] at h1; cases h1
    | none =>
      cases hf2 : fault N r2 S m.1 m.2 with
      | some x => rw [hf2] at h2; cases h2
      | none =>
        rw [hf] at h1
        rw [hf2] at h2
        dsimp only at h1 h2 ⊢
        rw [run_same h1 h2]
theorem plan_right (hi : InsOk N M ins) (hN : netOk N) (hM : netOk M) (hl : N.length ≤ 20) (hm : M.length ≤ 20) {w : Int} (w0 : 0 ≤ w) (w1 : w < M.length) : d_law_plan_right [netD N, netD M, insD ins, .int w] st = .ok (.bl true) st := by
  suffices hs : Rb (d_law_plan_right [netD N, netD M, insD ins, .int w] st) fun d st' => d = .bl true ∧ st' = st by
    obtain ⟨d, st', e, rfl, rfl⟩ := Rb_iff.mp hs
    exact e
  rw [d_law_plan_right]; refine Rb.of ?_
  unfold g_law_plan_right
  have e0 : d_plain_plan [netD M, .tup [.int w]] st = .ok (.lst true ((pl1 M w).map mvD)) st := pl1_ok hM (by omega) w0 w1
  have e1 := put_ok (st := st) hi (by omega) (by omega) hM
  have e2 := number_ok (st := st) hi (by omega) (by omega) w0 w1
  have hmv := pl1_mv hM w0 w1
  have he := pl1_end hM w0 w1
  have hlen : (pl1 M w).length ≤ 420 := by
    have h1 := pl1_len hM w0 w1
    have := Nat.mul_le_mul hm (show M.length + 1 ≤ 21 by omega)
    omega
  have e3 := plan_behind_ok (st := st) hi hN (by omega) (by omega) hmv (by omega) he
  have e4 := rooms_ok (st := st) hi hN (by omega) (by omega) hmv he (by omega)
  have hmo := pbF_mv (O := []) hi hN hmv
  have hrun := behind_rooms hi hN hM hmv he (Int.le_refl _)
  have hmost := behind_most hi hN hM hmv he
  have hPl := Bh.putF_len (N := N) (M := M) ins
  have hL1 : (pbF N ins [] (pl1 M w)).length < 900000 := by
    have h1 := pbF_len hi hN (pl1 M w) []
    have h2 : N.length * (N.length + 1) + 1 ≤ 421 := by
      have := Nat.mul_le_mul hl (show N.length + 1 ≤ 21 by omega)
      omega
    have := Nat.mul_le_mul hlen h2
    omega
  have hS : sortI ([w].map (nuF N.length ins)) = [nuF N.length ins w] := (sortI_eq (.refl _) (by simp)).symm
  rw [hS] at hrun
  have hend2 := end_room hmo ⟨by simp, by simp⟩ hrun
  have e5 := most_run (st := st) hmo hend2 hL1
  have hsame := run_same hrun hend2
  have e6 : d_does [netD (Bh.putF N M ins), .int (roomsF N M ins (pl1 M w)), .lst false ((pbF N ins [] (pl1 M w)).map mvD), tI [nuF N.length ins w]] st = .ok (.bl true) st := by
    rw [Tp.does_ok hmo hL1]
    have : dueF (Bh.putF N M ins) (roomsF N M ins (pl1 M w)) (pbF N ins [] (pl1 M w)) [nuF N.length ins w] = true := by
      unfold dueF
      rw [(endP_run hrun).1, last_end hrun]
      simp
    rw [this]
  have e7 := prog_played_ok (N := Bh.putF N M ins) (rooms := roomsF N M ins (pl1 M w)) (ms := pbF N ins [] (pl1 M w)) (o := true) (st := st) (fun m h => (hmo m h).2) hL1
  obtain ⟨h1, pr, h2⟩ := endP_run hrun
  rw [h1, h2] at e7
  have hmost2 : mostP (Bh.putF N M ins) (pbF N ins [] (pl1 M w)) ≤ roomsF N M ins (pl1 M w) := by
    unfold mostP
    rw [← hsame]
    exact hmost
  have e8 : ∀ st, d_plan_behind [netD N, netD M, .tz [], .lst false ((pl1 M w).map mvD)] st = .ok (.lst true ((shM N.length (pl1 M w)).map mvD)) st := fun st => by
    have := plan_behind_ok (ins := []) (st := st) .nil hN (by omega) (by omega) hmv (by omega) he
    rw [pbF_nil _ _ fun m h => (hmv m h).2.1] at this
    exact this
  have e9 : ∀ st k, 0 ≤ k → k < (M.length : Int) → d_number_behind [netD N, netD M, .tz [], .int k] st = .ok (.int ((N.length : Int) + k)) st := fun st k h0 h1 => by
    have := number_ok (ins := []) (N := N) (st := st) .nil (by omega) (by omega) h0 h1
    rw [nuF_nil h0] at this
    exact this
  have hmo2 : ∀ m ∈ shM N.length (pl1 M w), (m.1 = ("do" : Str) ∨ m.1 = ("clear" : Str)) := fun m hm => by
    obtain ⟨x, hx, rfl⟩ := List.mem_map.mp hm
    exact (hmv x hx).1
  have hpq : ((shM N.length (pl1 M w)).map mvD).all (pq 2) = true := List.all_eq_true.mpr fun d hd => by
    obtain ⟨m, hm, rfl⟩ := List.mem_map.mp hd
    obtain ⟨a, b⟩ := m
    have := hmo2 _ hm
    dsimp only at this
    rcases this with rfl | rfl <;> simp [mvD] <;> decide +kernel
  have heq : ∀ o o' : Bool, opEq [.lst o ((shM N.length (pl1 M w)).map mvD), .lst o' ((shM N.length (pl1 M w)).map mvD)] = some (.bl true) := fun o o' => opEq_same hpq (by decide)
  have hB : opIsNB [.bl true, .bl true] = some (.bl false) := rfl
  have l2 : atI (pr.map tI ++ [tI [nuF N.length ins w]]) (-1) = some (tI [nuF N.length ins w]) := by
    rw [Tp.last_at (by simp)]
    simp
  have hng : ¬ roomsF N M ins (pl1 M w) < mostP (Bh.putF N M ins) (pbF N ins [] (pl1 M w)) := by omega
  generalize mostP (Bh.putF N M ins) (pbF N ins [] (pl1 M w)) = mq at e5 hng
  generalize roomsF N M ins (pl1 M w) = R at e4 e6 e7 hng
  generalize pbF N ins [] (pl1 M w) = L at e3 e5 e6 e7
  generalize hQ : shM N.length (pl1 M w) = Q at e8 heq
  have e6' : d_does [netD (Bh.putF N M ins), .int R, .lst false (L.map mvD), .tup [.int (nuF N.length ins w)]] st = .ok (.bl true) st := e6
  have hn1 : opNe [tI [nuF N.length ins w], .tup [.int (nuF N.length ins w)]] = some (.bl false) := by
    have := opNe_t [nuF N.length ins w] [nuF N.length ins w]
    rw [decide_eq_true rfl] at this
    exact this
  have hn2 : opNe [.tup [.int (nuF N.length ins w)], .tup [.int (nuF N.length ins w)]] = some (.bl false) := hn1
  have hQD : (pl1 M w).map (fun m : Mv => mvD (m.1, (N.length : Int) + m.2)) = Q.map mvD := by rw [← hQ, shM, List.map_map]; rfl
  simp [e0, e1, e2, e3, e4, e6', hB, e5, hng, e7, l2, hn1, hn2]
  rw [lc_map (fun m : Mv => mvD (m.1, (N.length : Int) + m.2)) (by
    rintro ⟨a, b⟩ hm
    have hb := (hmv _ hm).2
    simp [mvD, e9 _ b hb.1 hb.2]), hQD]
  simp [e8, heq]
theorem h_law (ns : List Int) (h : ns.length ≤ 63) : ∃ ρ, g_law ⟨.no :: .sh .rs :: List.replicate 7 .no, ⟨cellsF ns, 0⟩⟩ = .ok (.rt (.bl true)) ρ := by
  have g0 := gd_start ns h
  generalize (⟨cellsF ns, 0⟩ : RSt) = st0 at g0 ⊢
  suffices hs : Ob (g_law ⟨.no :: .sh .rs :: List.replicate 7 .no, st0⟩) fun fl ρ => fl = .rt (.bl true) by
    obtain ⟨fl, ρ, e, rfl⟩ := Ob_iff.mp hs
    exact ⟨ρ, e⟩
  unfold g_law
  simp
  rw [itRg1 (by omega) (by omega)]
  simp
  generalize e3 : lcL _ _ _ _ _ _ = L
  obtain ⟨ys, st1, rfl, hl, hy, g1⟩ := lc_rd e3 netD (fun _ N => netOk N ∧ 1 ≤ N.length ∧ N.length ≤ 6) 100 1000 (g0.mono (by decide)) (fun x hx r st g => by
    obtain ⟨b, st2, e2, b0, b1, g2⟩ := take_gd (r := r + 99) (n := 6) (st := st) g (by decide) (by decide)
    obtain ⟨_, st3, e4, N, rfl, hN, hNl, g3⟩ := Rb_iff.mp (net_ok (n := 1 + b) (st := st2) (r := r) (by omega) (by omega) (g2.mono (by omega)))
    simp [e2, e4]
    exact ⟨N, rfl, ⟨hN, by omega, by omega⟩, g3⟩)
  have hl3 : ys.length = 3 := by rw [hl]; rfl
  match ys, hl3 with
  | [A, B, C], _ =>
    have hA := hy 0 0 A rfl rfl
    have hB := hy 1 1 B rfl rfl
    have hC := hy 2 2 C rfl rfl
    obtain ⟨hA, a1, a2⟩ := hA
    obtain ⟨hB, b1, b2⟩ := hB
    obtain ⟨hC, c1, c2⟩ := hC
    obtain ⟨_, st2, e2, ins, rfl, hi, g2⟩ := Rb_iff.mp (ins_ok (N := A) (M := B) (r := 500) (st := st1) (by omega) (by omega) (g1.mono (by omega)))
    have e4 := fun st => put_ok (st := st) hi (by omega) (by omega) hB
    have hP := putF_net hi hA hB
    have hPl : (Bh.putF A B ins).length ≤ 12 ∧ 1 ≤ (Bh.putF A B ins).length := by
      rw [Bh.putF_len]
      have h1 : Bh.cnt ins (B.length : Int) ≤ B.length := Bh.cnt_le ins B.length
      omega
    obtain ⟨_, st3, e5, ins2, rfl, hi2, g3⟩ := Rb_iff.mp (ins_ok (N := Bh.putF A B ins) (M := C) (r := 400) (st := st2) (by omega) (by omega) (g2.mono (by omega)))
    have e6 := fun st => put_right (st := st) hi hA hB a1 (by omega) (by omega)
    have e7 := fun st => put_right (st := st) hi2 hP hC hPl.2 (by omega) (by omega)
    have e8 := fun w st => plan_right (st := st) (w := w) hi hA hB (by omega) (by omega)
    have e9 := fun w st => plan_right (st := st) (w := w) hi2 hP hC (by omega) (by omega)
    generalize Bh.putF A B ins = P at *
    simp [e2, e4, e5, e6, e7]
    rw [itRg1 (by omega) (by omega)]
    simp
    refine ob_for (fun pre ρ => ∃ st r, ρ = ⟨[.no, .sh .rs, .sh (netD A), .sh (netD B), .sh (netD C), .no, .sh (insD ins), .sh (netD P), .sh (insD ins2)], st⟩ ∧ 400 ≤ r + pre.length * 2 ∧ Gd r st) ?_ ?_ ?_
    · exact ⟨st3, 400, rfl, by simp, g3⟩
    · rintro pre x post _ hx ⟨st, r, rfl, hrr, g⟩
      have hxl := congrArg List.length hx
      simp at hxl
      refine ⟨_, rfl, ?_⟩
      obtain ⟨b, st4, f1, b0, b1', g4⟩ := take_gd (r := r - 1) (n := B.length) (st := st) (g.mono (by omega)) (by omega) (by omega)
      obtain ⟨c, st5, f2, c0, c1', g5⟩ := take_gd (r := r - 2) (n := C.length) (st := st4) (g4.mono (by omega)) (by omega) (by omega)
      simp [f1, e8 b st4 b0 b1', f2, e9 c st5 c0 c1']
      exact ⟨r - 2, by omega, g5⟩
    · rintro _ ⟨st, r, rfl, hrr, g⟩
      simp
end K69

namespace K69
open PySem PySem.Spec PyProof.Rows Fw L2
def top (i : Nat) : Stmt := PySem.Challenge.pw_fewrooms_k69_whole_nets_one_behind_anoth.main.body.getD i (.Pass ⟨0, 0, 0, 0⟩)
abbrev s_law_take : Stmt := top 29
theorem scLawTake : FnScope ["_law_state", "_law_many", "_law_turn", "_law_place", "_law_cell", "_law_digit", "_law_mixed"] ["_law_state", "_law_many"] (defScope s_law_take) := ⟨rfl, rfl, rfl, by decide +kernel, rfl, by decide +kernel, by decide +kernel⟩
abbrev s_law_begin : Stmt := top 28
theorem scLawBegin : FnScope ["_law_script", "_law_cells"] ["_law_script"] (defScope s_law_begin) := ⟨rfl, rfl, rfl, by decide +kernel, rfl, by decide +kernel, by decide +kernel⟩
abbrev s_law_tree_net : Stmt := top 31
def nLawTreeNet : List Str := ["_law_state", "_law_many", "_law_open_ones", "_law_found", "_law_k", "_law_so_many"]
theorem scLawTreeNet : FnScope ["_law_state", "_law_many", "_law_open_ones", "_law_found", "_law_k", "_law_so_many"] ["_law_state", "_law_many"] (defScope s_law_tree_net) := ⟨rfl, rfl, rfl, by decide +kernel, rfl, by decide +kernel, by decide +kernel⟩
abbrev s_law_some_needs : Stmt := top 30
def nLawSomeNeeds : List Str := ["_law_state", "_law_k", "_law_found", "_law_turn", "_law_far"]
theorem scLawSomeNeeds : FnScope ["_law_state", "_law_k", "_law_found", "_law_turn", "_law_far"] ["_law_state", "_law_k"] (defScope s_law_some_needs) := ⟨rfl, rfl, rfl, by decide +kernel, rfl, by decide +kernel, by decide +kernel⟩
abbrev s_law_net : Stmt := top 32
def nLawNet : List Str := ["_law_state", "_law_many", "_law_way", "_law_wide", "_law_k", "_law_some", "_law_needs", "_law_half", "_law_n"]
theorem scLawNet : FnScope ["_law_state", "_law_many", "_law_way", "_law_wide", "_law_k", "_law_some", "_law_needs", "_law_half", "_law_n"] ["_law_state", "_law_many"] (defScope s_law_net) := ⟨rfl, rfl, rfl, by decide +kernel, rfl, by decide +kernel, by decide +kernel⟩
abbrev s_law_ins : Stmt := top 33
def nLawIns : List Str := ["_law_state", "_law_one", "_law_other", "_law_free", "_law_found", "_law_work"]
theorem scLawIns : FnScope ["_law_state", "_law_one", "_law_other", "_law_free", "_law_found", "_law_work"] ["_law_state", "_law_one", "_law_other"] (defScope s_law_ins) := ⟨rfl, rfl, rfl, by decide +kernel, rfl, by decide +kernel, by decide +kernel⟩
abbrev s_numbers_behind : Stmt := top 22
def nNumbersBehind : List Str := ["one", "other", "ins", "taken", "numbers", "coming", "work"]
theorem scNumbersBehind : FnScope ["one", "other", "ins", "taken", "numbers", "coming", "work"] ["one", "other", "ins"] (defScope s_numbers_behind) := ⟨rfl, rfl, rfl, by decide +kernel, rfl, by decide +kernel, by decide +kernel⟩
abbrev s_put_behind : Stmt := top 24
def nPutBehind : List Str := ["one", "other", "ins", "numbers", "taken", "made", "work", "needs", "need"]
theorem scPutBehind : FnScope ["one", "other", "ins", "numbers", "taken", "made", "work", "needs", "need"] ["one", "other", "ins"] (defScope s_put_behind) := ⟨rfl, rfl, rfl, by decide +kernel, rfl, by decide +kernel, by decide +kernel⟩
abbrev s_is_work_below : Stmt := top 10
def nIsWorkBelow : List Str := ["thing", "most"]
theorem scIsWorkBelow : FnScope ["thing", "most"] ["thing", "most"] (defScope s_is_work_below) := ⟨rfl, rfl, rfl, by decide +kernel, rfl, by decide +kernel, by decide +kernel⟩
abbrev s_are_needs : Stmt := top 11
def nAreNeeds : List Str := ["thing", "work", "need", "one", "other"]
theorem scAreNeeds : FnScope ["thing", "work", "need", "one", "other"] ["thing", "work"] (defScope s_are_needs) := ⟨rfl, rfl, rfl, by decide +kernel, rfl, by decide +kernel, by decide +kernel⟩
abbrev s_is_net : Stmt := top 12
def nIsNet : List Str := ["thing", "work", "needs"]
theorem scIsNet : FnScope ["thing", "work", "needs"] ["thing"] (defScope s_is_net) := ⟨rfl, rfl, rfl, by decide +kernel, rfl, by decide +kernel, by decide +kernel⟩
abbrev s_all_needed : Stmt := top 13
def nAllNeeded : List Str := ["net", "asked", "wanted", "work", "need"]
theorem scAllNeeded : FnScope ["net", "asked", "wanted", "work", "need"] ["net", "asked"] (defScope s_all_needed) := ⟨rfl, rfl, rfl, by decide +kernel, rfl, by decide +kernel, by decide +kernel⟩
abbrev s_number_behind : Stmt := top 23
def nNumberBehind : List Str := ["one", "other", "ins", "work"]
theorem scNumberBehind : FnScope ["one", "other", "ins", "work"] ["one", "other", "ins", "work"] (defScope s_number_behind) := ⟨rfl, rfl, rfl, by decide +kernel, rfl, by decide +kernel, by decide +kernel⟩
abbrev s_law_put_right : Stmt := top 34
def nLawPutRight : List Str := ["_law_one", "_law_other", "_law_ins_here", "_law_net_here", "_law_work", "_law_own", "_law_need", "_law_every"]
theorem scLawPutRight : FnScope ["_law_one", "_law_other", "_law_ins_here", "_law_net_here", "_law_work", "_law_own", "_law_need", "_law_every"] ["_law_one", "_law_other", "_law_ins_here"] (defScope s_law_put_right) := ⟨rfl, rfl, rfl, by decide +kernel, rfl, by decide +kernel, by decide +kernel⟩
abbrev s_plan_in : Stmt := top 15
def nPlanIn : List Str := ["net", "asked", "order", "last", "place", "work", "need", "plan"]
theorem scPlanIn : FnScope ["net", "asked", "order", "last", "place", "work", "need", "plan"] ["net", "asked", "order"] (defScope s_plan_in) := ⟨rfl, rfl, rfl, by decide +kernel, rfl, by decide +kernel, by decide +kernel⟩
abbrev s_plain_plan : Stmt := top 16
def nPlainPlan : List Str := ["net", "asked"]
theorem scPlainPlan : FnScope ["net", "asked"] ["net", "asked"] (defScope s_plain_plan) := ⟨rfl, rfl, rfl, by decide +kernel, rfl, by decide +kernel, by decide +kernel⟩
abbrev s_plan_behind : Stmt := top 25
def nPlanBehind : List Str := ["one", "other", "ins", "plan", "numbers", "taken", "there", "made", "word", "work", "some", "move"]
theorem scPlanBehind : FnScope ["one", "other", "ins", "plan", "numbers", "taken", "there", "made", "word", "work", "some", "move"] ["one", "other", "ins", "plan"] (defScope s_plan_behind) := ⟨rfl, rfl, rfl, by decide +kernel, rfl, by decide +kernel, by decide +kernel⟩
abbrev s_fault_of : Stmt := top 6
def nFaultOf : List Str := ["net", "rooms", "stand", "move", "word", "work", "there", "need"]
theorem scFaultOf : FnScope ["net", "rooms", "stand", "move", "word", "work", "there", "need"] ["net", "rooms", "stand", "move"] (defScope s_fault_of) := ⟨rfl, rfl, rfl, by decide +kernel, rfl, by decide +kernel, by decide +kernel⟩
abbrev s_stand_behind : Stmt := top 7
def nStandBehind : List Str := ["stand", "move", "word", "work", "other"]
theorem scStandBehind : FnScope ["stand", "move", "word", "work", "other"] ["stand", "move"] (defScope s_stand_behind) := ⟨rfl, rfl, rfl, by decide +kernel, rfl, by decide +kernel, by decide +kernel⟩
abbrev s_moved : Stmt := top 8
def nMoved : List Str := ["net", "rooms", "stand", "move", "fault"]
theorem scMoved : FnScope ["net", "rooms", "stand", "move", "fault"] ["net", "rooms", "stand", "move"] (defScope s_moved) := ⟨rfl, rfl, rfl, by decide +kernel, rfl, by decide +kernel, by decide +kernel⟩
abbrev s_played : Stmt := top 18
def nPlayed : List Str := ["net", "rooms", "plan", "stands", "number", "move", "word"]
theorem scPlayed : FnScope ["net", "rooms", "plan", "stands", "number", "move", "word"] ["net", "rooms", "plan"] (defScope s_played) := ⟨rfl, rfl, rfl, by decide +kernel, rfl, by decide +kernel, by decide +kernel⟩
abbrev s_most_of : Stmt := top 19
def nMostOf : List Str := ["net", "plan", "stand"]
theorem scMostOf : FnScope ["net", "plan", "stand"] ["net", "plan"] (defScope s_most_of) := ⟨rfl, rfl, rfl, by decide +kernel, rfl, by decide +kernel, by decide +kernel⟩
abbrev s_rooms_behind : Stmt := top 26
def nRoomsBehind : List Str := ["one", "other", "ins", "plan", "start", "work"]
theorem scRoomsBehind : FnScope ["one", "other", "ins", "plan", "start", "work"] ["one", "other", "ins", "plan"] (defScope s_rooms_behind) := ⟨rfl, rfl, rfl, by decide +kernel, rfl, by decide +kernel, by decide +kernel⟩
abbrev s_does : Stmt := top 20
def nDoes : List Str := ["net", "rooms", "plan", "asked", "last", "work"]
theorem scDoes : FnScope ["net", "rooms", "plan", "asked", "last", "work"] ["net", "rooms", "plan", "asked"] (defScope s_does) := ⟨rfl, rfl, rfl, by decide +kernel, rfl, by decide +kernel, by decide +kernel⟩
abbrev s_law_plan_right : Stmt := top 35
def nLawPlanRight : List Str := ["_law_one", "_law_other", "_law_ins_here", "_law_work", "_law_plan", "_law_net_here", "_law_goal", "_law_found", "_law_rooms", "_law_alone", "_law_word", "_law_more"]
theorem scLawPlanRight : FnScope ["_law_one", "_law_other", "_law_ins_here", "_law_work", "_law_plan", "_law_net_here", "_law_goal", "_law_found", "_law_rooms", "_law_alone", "_law_word", "_law_more"] ["_law_one", "_law_other", "_law_ins_here", "_law_work"] (defScope s_law_plan_right) := ⟨rfl, rfl, rfl, by decide +kernel, rfl, by decide +kernel, by decide +kernel⟩
abbrev s_law : Stmt := top 36
def nLaw : List Str := ["_law_script", "_law_state", "_law_one", "_law_other", "_law_third", "_law_turn", "_law_ins_here", "_law_both", "_law_more"]
theorem scLaw : FnScope ["_law_script", "_law_state", "_law_one", "_law_other", "_law_third", "_law_turn", "_law_ins_here", "_law_both", "_law_more"] ["_law_script"] (defScope s_law) := ⟨rfl, rfl, rfl, by decide +kernel, rfl, by decide +kernel, by decide +kernel⟩
structure XFacts (K : PySem.W.Frag) (mg : Str → Option Value) : Prop where
  g_Barred : mg "Barred" = some (.ref (clsAt K "Barred"))
  ext_Barred : ExT K (.ref (clsAt K "Barred")) tx_Barred
  tt : True
section
variable {P : Program} {w : World} {K : PySem.W.Frag} {mg : Str → Option Value} {base : Heap}
theorem ok_law_take {f : Addr} {fd : FuncData} (F : Fun K "_law_take" "_law_take" s_law_take f fd) (hm : mg "_law_take" = some (.ref f)) (b : Binds K fd ["_law_state", "_law_many"] []) (bl : Blt mg) : CalOk P w K mg base 1 "_law_take" 2 takeD := by
  refine ⟨f, fd, _, hm, F.kp, b, F.okX scLawTake (fun vs H Q E h => h.1) (fun cdv A outer s H vs Q E hr h => ?_)⟩
  obtain ⟨hn, ⟨rs, cl⟩, M, ds, st, hcl, rl, ok, sM, md, hl, q⟩ := h
  rcases takeD_inv ds st with e0 | ⟨n, rfl, hok, e0⟩
  · rw [e0] at q
    exact q.elim
  · rw [e0] at q
    · dsimp only at q
      obtain ⟨⟨a, c, v1, rfl, rfl, rfl⟩, hsc⟩ : (∃ (a c : Addr) (v1 : V), rs = some (a, c) ∧ vs = [.ref a, v1] ∧ v1 = .int n) ∧ True := by
        generalize eg : ([] : List Addr) = G at rl
        cases rl with
        | cons h1 r1 =>
          cases h1 with
          | rs e =>
            cases r1 with
            | cons h2 r2 =>
              cases h2
              cases r2
              exact ⟨⟨_, _, _, e, rfl, rfl⟩, trivial⟩
      obtain ⟨ne, h1, h2⟩ := ok
      unfold takeOk at hok
      simp only [Bool.and_eq_true, decide_eq_true_eq] at hok
      obtain ⟨⟨⟨⟨⟨n0, n1⟩, t0⟩, t1⟩, l0⟩, l1⟩ := hok
      have hu := hu_of hr
      refine ⟨_, pss_cons (ps_set (i := 2) scLawTake.nd rfl (by first | exact Or.inl rfl | exact Or.inr rfl) (pe_op op_add (pe_dget hu (pv 0) pe_str (fun _ _ => rfl)) pe_int))
        (pss_cons (ps_dput hu (pv 0) pe_str (pv 2) rfl)
        (pss_cons (ps_set (i := 3) scLawTake.nd rfl (by first | exact Or.inl rfl | exact Or.inr rfl) (pe_op op_mod (pv 2) (pe_callB call_len_seq (by rfl) bl.len PySem.boot_len (pa_cons (pe_dget hu (pv 0) pe_str (fun _ _ => rfl)) pa_nil))))
        (pss_cons (ps_set (i := 4) scLawTake.nd rfl (by first | exact Or.inl rfl | exact Or.inr rfl) (pe_ix ix_list (pe_dget hu (pv 0) pe_str (fun _ _ => rfl)) (pv 3) (fun _ _ => rfl)))
        (pss_cons (ps_if (pt_cmpR op_ge (pv 4) (pe_op op_pow pe_int pe_int) (nomark _))
          (pss_cons (ps_asg (pe_callB call_divmod (by rfl) bl.divmod boot_divmod (pa_cons (pv 4) (pa_cons (pv 1) pa_nil))) (pg_tup rfl (pgs_cons (pg_sub (pe_dget hu (pv 0) pe_str (fun _ _ => rfl)) (pv 3) set_list) (pgs_cons (pg_name (i := 5) scLawTake.nd rfl (by first | exact Or.inl rfl | exact Or.inr rfl)) pgs_nil))))
            (pss_one (ps_ret (pv 5)))) pss_nil)
        (pss_cons (ps_set (i := 6) scLawTake.nd rfl (by first | exact Or.inl rfl | exact Or.inr rfl) (pe_op op_mod (pe_op op_mul (pe_op op_add (pe_op op_add (pe_op op_mod (pv 4) pe_int) (pe_op op_mul (pe_op op_mul (pv 2) (pv 2)) pe_int)) pe_int) pe_int) pe_int))
        (pss_cons (ps_set (i := 6) scLawTake.nd rfl (by first | exact Or.inl rfl | exact Or.inr rfl) (pe_op op_mod (pe_op op_mul (pv 6) (pv 6)) pe_int))
        (pss_one (ps_ret (pe_op op_mod (pe_op op_fdiv (pe_op op_mod (pe_op op_mul (pe_op op_add (pv 6) (pe_op op_mul (pv 2) pe_int)) pe_int) pe_int) pe_int) (pv 1)))))))))), ?_⟩
      have g1 : DGet H a (.str "turn") (some (.int st.turn)) := .inl ⟨_, .inr "turn", .inl h1, rfl, rfl⟩
      refine ⟨_, rfl, a, _, rfl, g1, _, _, rfl, rfl, ?_⟩
      have e2 : putK [((.inr "cells" : Key), V.ref c), ((.inr "turn" : Key), V.int st.turn)] (.inr "turn") (.int (st.turn + 1)) = [(.inr "cells", .ref c), (.inr "turn", .int (st.turn + 1))] := rfl
      have p1 : DPut H a (.str "turn") (.int (st.turn + 1)) (upd H a (.dK [(.inr "cells", .ref c), (.inr "turn", .int (st.turn + 1))])) := .inl ⟨_, .inr "turn", h1, rfl, by show 2 < sizeLine; decide, by rw [e2]⟩
      refine ⟨_, rfl, _, rfl, a, _, rfl, p1, ?_⟩
      have k1 : upd H a (.dK [(.inr "cells", .ref c), (.inr "turn", .int (st.turn + 1))]) a = some (.dK [(.inr "cells", .ref c), (.inr "turn", .int (st.turn + 1))]) := upd_same
      have g2 : DGet (upd H a (.dK [(.inr "cells", .ref c), (.inr "turn", .int (st.turn + 1))])) a (.str "cells") (some (.ref c)) := .inl ⟨_, .inr "cells", .inl k1, rfl, rfl⟩
      have k2 : upd H a (.dK [(.inr "cells", .ref c), (.inr "turn", .int (st.turn + 1))]) c = some (.lst (st.cells.map V.int)) := by rw [upd_ne ne.symm]; exact h2
      generalize hH1 : upd H a (.dK [(.inr "cells", .ref c), (.inr "turn", .int (st.turn + 1))]) = H1 at k1 k2 g2 ⊢
      have hl1 : HLen H1 := by rw [← hH1]; exact hl.upd (by intro vs e; rcases e with e | e <;> cases e)
      have x1 : Ext ⟨some (a, c), cl⟩ H H1 := fun b o e nb => by
        rw [← hH1, upd_ne (by rintro rfl; exact nb (by simp [sA]))]; exact e
      refine ⟨_, rfl, _, rfl, a, _, rfl, g2, c, _, rfl, .inl (SqL.of k2), _, _, rfl, rfl, by rw [List.length_map]; omega, ?_⟩
      have hp0 : 0 ≤ (st.turn + 1) % ((st.cells.map V.int).length : Int) := Int.emod_nonneg _ (by rw [List.length_map]; omega)
      have hp1 : (st.turn + 1) % ((st.cells.map V.int).length : Int) < (st.cells.length : Int) := by rw [List.length_map]; exact Int.emod_lt_of_pos _ (by omega)
      rw [List.length_map] at hp0 hp1
      have hpl : ((st.turn + 1) % (st.cells.length : Int)).toNat < st.cells.length := by omega
      have hpe : (((st.turn + 1) % (st.cells.length : Int)).toNat : Int) = (st.turn + 1) % (st.cells.length : Int) := Int.toNat_of_nonneg hp0
      have hcell : atI (st.cells.map V.int) ((st.turn + 1) % ((st.cells.map V.int).length : Int)) = some (.int (st.cells.getD ((st.turn + 1) % (st.cells.length : Int)).toNat 0)) := by
        rw [List.length_map, ← hpe]
        refine atI_nat ?_
        rw [List.getElem?_map, List.getD_eq_getElem?_getD, hpe, List.getElem?_eq_getElem hpl]
        rfl
      refine ⟨_, rfl, a, _, rfl, g2, _, rfl, c, _, _, _, rfl, rfl, SqL.of k2, hcell, ?_⟩
      refine ⟨_, rfl, _, _, rfl, rfl, ⟨by decide, by decide, by decide⟩, _, _, rfl, rfl, _, rfl, ?_⟩
      refine ite2 (fun hc => ?_) (fun hc => ?_)
      · have hc : 10 ^ 18 ≤ st.cells.getD ((st.turn + 1) % (st.cells.length : Int)).toNat 0 := of_decide_eq_true hc
        refine ⟨_, rfl, _, rfl, _, _, rfl, ⟨n0, n1⟩, fun p hp => ?_⟩
        have g3 : DGet (upd H1 p (.tup [.int (st.cells.getD ((st.turn + 1) % (st.cells.length : Int)).toNat 0 / n), .int (st.cells.getD ((st.turn + 1) % (st.cells.length : Int)).toNat 0 % n)])) a (.str "cells") (some (.ref c)) := .inl ⟨_, .inr "cells", .inl (same_upd hp _ _ k1), rfl, rfl⟩
        refine ⟨p, _, rfl, SqT.of upd_same, rfl, _, _, rfl, ⟨_, rfl, a, _, rfl, g3, _, rfl, c, _, _, ((st.turn + 1) % (st.cells.length : Int)).toNat, rfl, rfl, same_upd hp _ _ k2, ?_, ?_⟩⟩
        · rw [List.length_map]
          unfold ixN
          rw [if_pos hp0, if_pos hp1]
        · refine ⟨_, _, rfl, rfl, _, rfl, ?_⟩
          have ef : takeF st n = (st.cells.getD ((st.turn + 1) % (st.cells.length : Int)).toNat 0 % n, ⟨st.cells.set ((st.turn + 1) % (st.cells.length : Int)).toNat (st.cells.getD ((st.turn + 1) % (st.cells.length : Int)).toNat 0 / n), st.turn + 1⟩) := by
            unfold takeF
            dsimp only
            rw [if_pos hc]
          rw [ef] at q
          have pc : c ≠ p := ne_of_none k2 hp
          have pa' : a ≠ p := ne_of_none k1 hp
          refine q _ _ [] (fun b o e nb => ?_) ⟨ne, ?_, ?_⟩ ?_ (fun _ z => nomatch z) List.nodup_nil (fun _ z => nomatch z) (.int _)
          · have hb : b ≠ c := by rintro rfl; exact nb (by simp [sA])
            rw [upd_ne hb]
            exact same_upd hp _ _ (x1 b o e nb)
          · rw [upd_ne ne, upd_ne pa']
            exact k1
          · rw [upd_same, List.map_set]
          · refine (hl1.upd (by intro vs e; rcases e with e | e <;> cases e; show 2 ≤ sizeLine; decide)).upd ?_
            intro vs e
            rcases e with e | e <;> cases e
            rw [List.length_set, List.length_map]
            have := hl _ _ (.inl h2)
            rwa [List.length_map] at this
      · have hc : ¬ 10 ^ 18 ≤ st.cells.getD ((st.turn + 1) % (st.cells.length : Int)).toNat 0 := fun z => hc (decide_eq_true z)
        have ef : takeF st n = (mixF (st.cells.getD ((st.turn + 1) % (st.cells.length : Int)).toNat 0) (st.turn + 1) n, ⟨st.cells, st.turn + 1⟩) := by
          unfold takeF
          dsimp only
          rw [if_neg hc]
        rw [ef] at q
        refine ⟨_, rfl, _, _, rfl, rfl, (by show (0 : Int) < _; decide), _, rfl, _, rfl, _, _, rfl, rfl, .inl ⟨by omega, by omega⟩, _, _, rfl, rfl, .inr ⟨by decide, by decide⟩, _, _, rfl, rfl, _, _, rfl, rfl, _, _, rfl, rfl, .inr ⟨by decide, by decide⟩, _, _, rfl, rfl, (by show (0 : Int) < _; decide), ?_⟩
        refine ⟨_, rfl, _, rfl, _, _, rfl, rfl, .inl ⟨?_, ?_⟩, _, _, rfl, rfl, (by show (0 : Int) < _; decide), ?_⟩
        · have := Int.emod_nonneg ((st.cells.getD ((st.turn + 1) % (st.cells.length : Int)).toNat 0 % 2147483629 + (st.turn + 1) * (st.turn + 1) * 7919 + 11) * 48271) (show (2147483647 : Int) ≠ 0 by decide)
          omega
        · have := Int.emod_lt_of_pos ((st.cells.getD ((st.turn + 1) % (st.cells.length : Int)).toNat 0 % 2147483629 + (st.turn + 1) * (st.turn + 1) * 7919 + 11) * 48271) (show (0 : Int) < 2147483647 by decide)
          omega
        refine ⟨_, rfl, _, rfl, _, _, rfl, rfl, .inr ⟨by decide, by decide⟩, _, _, rfl, rfl, _, _, rfl, rfl, .inr ⟨by decide, by decide⟩, _, _, rfl, rfl, (by show (0 : Int) < _; decide), _, _, rfl, rfl, ⟨by decide, by decide⟩, _, rfl, _, _, rfl, rfl, n0, ?_⟩
        exact q _ H1 [] x1 ⟨ne, k1, k2⟩ hl1 (fun _ z => nomatch z) List.nodup_nil (fun _ z => nomatch z) (.int _)
theorem ok_law_begin {f : Addr} {fd : FuncData} (F : Fun K "_law_begin" "_law_begin" s_law_begin f fd) (bl : Blt mg) : FnOk P w K mg base (L2.CX P w) 1 f fd ["_law_script"] (spBegin K) := by
  refine F.okX scLawBegin (fun vs H Q E h => ?_) (fun cdv A outer s H vs Q E hr h => ?_)
  · obtain ⟨a, ns, rfl, _⟩ := h
    rfl
  · obtain ⟨a, ns, rfl, hS, h63, hl, k⟩ := h
    refine ⟨_, pss_cons (ps_set (i := 1) scLawBegin.nd rfl (by first | exact Or.inl rfl | exact Or.inr rfl) (pe_callTy call_list_of (by rfl) bl.list boot_list (pa_cons (pe_slice sl_list (pv 0) po_none (po_some pe_int)) pa_nil)))
      (pss_cons (ps_if (pt_cmpR (op_eqD hr.units) (pv 1) (pe_lst pa_nil) (nomark _)) (pss_one (ps_set (i := 1) scLawBegin.nd rfl (by first | exact Or.inl rfl | exact Or.inr rfl) (pe_lst (pa_cons pe_int pa_nil)))) pss_nil)
      (pss_one (ps_ret (pe_disp (pps_cons pe_str (pv 1) (pps_cons pe_str pe_int pps_nil)) (by rfl) (by rfl) (fun z => by cases z) (by decide))))), ?_⟩
    have ecut : cutV (ns.map V.int) none (some 63) = ns.map V.int := by
      unfold cutV
      rw [HT.sIx_none, List.drop_zero, show ((63 : Int)) = ((63 : Nat) : Int) from rfl, HT.sIx_nat, List.length_map, Nat.sub_zero]
      exact List.take_of_length_le (by rw [List.length_map]; omega)
    refine ⟨_, rfl, _, rfl, a, _, rfl, hS, fun p hp => ?_⟩
    rw [ecut]
    have hz : (ns.map V.int).length ≤ sizeLine := by rw [List.length_map, sizeLine_eq]; omega
    refine ⟨p, _, rfl, .inl (SqL.of upd_same), fun l hlp => ?_⟩
    have hl1 : HLen (upd (upd H p (.lst (ns.map V.int))) l (.lst (ns.map V.int))) := (hl.upd (by intro vs e; rcases e with e | e <;> cases e; exact hz)).upd (by intro vs e; rcases e with e | e <;> cases e; exact hz)
    have fin : ∀ (c : Addr) (H3 : Hp), H3 c = some (.lst ((cellsF ns).map V.int)) → HLen H3 → tRet (tDisp [(tC (.str "cells"), tVar 1), (tC (.str "turn"), tC (.int 0))]) { nx := fun _ H' => Q .non H', rt := Q } [some (.ref a), some (.ref c)] H3 := fun c H3 hc hl3 => by
      intro d hd
      refine ⟨_, rfl, upd_same, [(.inr "cells", .ref c), (.inr "turn", .int 0)], rfl, by show 2 ≤ 15; decide, ?_⟩
      have dc : c ≠ d := ne_of_none hc hd
      rw [upd_upd]
      refine k d c _ dc.symm (by rw [upd_same]; rfl) (by rw [upd_ne dc]; exact hc) (hl3.upd (by intro vs e; rcases e with e | e <;> cases e))
    refine ⟨_, rfl, Nat.zero_le _, fun m hm => ?_⟩
    have lm : l ≠ m := ne_of_none upd_same hm
    refine ⟨.list (ns.map .int), .list [], .lst (SqL.of (by rw [upd_ne lm]; exact upd_same)) (dpInts ns), .lst (SqL.of upd_same) .nil, shaped_ints ns, by decide +kernel, _, rfl, ?_⟩
    have hl2 : HLen (upd (upd (upd H p (.lst (ns.map V.int))) l (.lst (ns.map V.int))) m (.lst [])) := hl1.upd (by intro vs e; rcases e with e | e <;> cases e; exact Nat.zero_le _)
    rw [eqv_nil ns]
    refine ite2 (fun hn => ?_) (fun hn => ?_)
    · have hn : ns = [] := of_decide_eq_true hn
      refine ⟨by show 1 ≤ sizeLine; decide, fun c hc => ?_⟩
      exact fin c _ (by rw [upd_same, hn]; rfl) (hl2.upd (by intro vs e; rcases e with e | e <;> cases e; show 1 ≤ sizeLine; decide))
    · have hn : ns ≠ [] := fun z => hn (decide_eq_true z)
      exact fin l _ (by rw [upd_ne lm, upd_same]; unfold cellsF; rw [if_neg hn]) hl2
abbrev s_Barred_init : Stmt := inClass (top 2) 0
theorem scBarredInit : FnScope ["self", "move", "word"] ["self", "move", "word"] (defScope s_Barred_init) := ⟨rfl, rfl, rfl, by decide +kernel, rfl, by decide +kernel, by decide +kernel⟩
theorem ok_init_Barred {f : Addr} {fd : FuncData} {C0 : Addr} {mc : Value} (F : Fun K "__init__" "Barred.__init__" s_Barred_init f fd) (bl : Blt mg) (O : OexC K (clsAt K "Barred")) (n1 : PySem.W.findIn K (.ref (clsAt K "Barred")) "move" = some none) (n2 : PySem.W.findIn K (.ref (clsAt K "Barred")) "word" = some none)
    (g0 : mg "RoomError" = some (.ref C0)) (r0 : PySem.W.readsIn K C0 mc = true) (r1 : PySem.W.specialIn K (.ref C0) "__getattribute__" = some (some (.builtin "type.__getattribute__"))) (r2 : PySem.W.findCls K (.ref C0) mc "__init__" = some (.val (.builtin "ValueError.__init__"))) :
    FnOk P w K mg base (L2.CX P w) 1 f fd ["self", "move", "word"] (spIni K "Barred" 2 flBar) := by
  refine F.okX scBarredInit (fun vs H Q E h => h.1) (fun cdv A outer s H vs Q E hr h => ?_)
  obtain ⟨hn, a, ws, fs, rfl, ha, ef, k⟩ := h
  refine ⟨_, pss_cons (ps_expr (pe_coinit rfl g0 r0 r1 r2 (pa_cons (pv 0) (pa_cons (pe_op op_add_str (pe_op op_add_str (pe_op op_add_str pe_str (pe_callTy call_str_int (by rfl) bl.str boot_str (pa_cons (pv 1) pa_nil))) pe_str) (pv 2)) pa_nil))))
    (pss_cons (ps_ost (pv 0) (pv 1)) (pss_one (ps_ost (pv 0) (pv 2)))), ?_⟩
  unfold flBar at ef
  split at ef
  · split at ef
    · rename_i m wd c
      cases ef
      have l1 := toString_len c.1 c.2.1
      have hz : ∀ n : Nat, n ≤ 2000 → n ≤ sizeLine := fun n h => Nat.le_trans h (by decide)
      have l5 : ("move " : Str).length = 5 := by decide
      have l2 : (": " : Str).length = 2 := by decide
      refine ⟨_, rfl, _, rfl, _, rfl, log_small c.1 c.2.1, _, _, rfl, rfl, hz _ (by omega), _, _, rfl, rfl, ?_, _, rfl, _, _, rfl, rfl, ?_, a, clsAt K "Barred", _, rfl, by simp, O, ha, ?_⟩
      · refine hz _ ?_
        rw [str_app]
        omega
      · refine hz _ ?_
        rw [str_app, str_app]
        omega
      · refine ⟨_, rfl, _, rfl, a, _, rfl, O, n1, .inl ⟨ha, fun dx hd ne => ?_⟩⟩
        have e1 : upd (upd H dx (exd dx [(("move" : Str), V.int m)])) a (exo a (clsAt K "Barred") (some dx)) a = some (exo a (clsAt K "Barred") (some dx)) := upd_same
        have e2 : upd (upd H dx (exd dx [(("move" : Str), V.int m)])) a (exo a (clsAt K "Barred") (some dx)) dx = some (exd dx [(("move" : Str), V.int m)]) := by rw [upd_ne ne, upd_same]
        refine ⟨_, rfl, _, rfl, a, _, rfl, O, n2, .inr ⟨dx, _, e1, e2, by simp, ?_⟩⟩
        refine k dx _ hd ne (by rw [upd_ne (Ne.symm ne), upd_same]) upd_same fun b nb nd => ?_
        rw [upd_ne nd, upd_ne nb, upd_ne nd]
    · cases ef
  · cases ef
theorem body_law_tree_net {f : Addr} (bl : Blt mg) (G__law_take : CalOk P w K mg base 1 "_law_take" 2 takeD) : BodyOk P w K mg base nLawTreeNet "_law_tree_net" s_law_tree_net f 1 Cm.g_law_tree_net := fun cdv A outer s H E S M hcl hr => by
  have tk : Takes (cxOf (L2.CX P w) P w K mg base nLawTreeNet "_law_tree_net" (defScope s_law_tree_net) f cdv A outer s H E) (fun cls d _ H' => E cls d H') := takes_of rfl rfl rfl rfl
  exact (ss_cons (es_set (i := 2) scLawTreeNet.nd rfl (by first | exact Or.inl rfl | exact Or.inr rfl) (ev_lst EM.nil)) (ss_cons (es_set (i := 3) scLawTreeNet.nd rfl (by first | exact Or.inl rfl | exact Or.inr rfl) (ev_lst EM.nil)) (ss_cons (es_for (fg := [4, 5]) (passes_of rfl) rfl (ei_range1 rfl bl.range (ev_bin op_sub opSub_S (plv (pv 1)) ev_int)) (eg_name (i := 4) scLawTreeNet.nd rfl (by first | exact Or.inl rfl | exact Or.inr rfl)) (ss_cons (es_set (i := 5) scLawTreeNet.nd rfl (by first | exact Or.inl rfl | exact Or.inr rfl) (ev_bt (call_min2 rfl) opMin2_S rfl bl.min boot_min (EA.cons (ev_bt call_lenA opLen_S rfl bl.len boot_len (EA.cons (plv (pv 2)) EA.nil)) (EA.cons (ev_ix (ix_any (hu_of hr)) opIxA_S (ev_lst (EM.cons ev_int (EM.cons ev_int (EM.cons ev_int (EM.cons ev_int (EM.cons ev_int (EM.cons ev_int EM.nil))))))) (ev_call G__law_take (hr.mono (by decide)) rfl hcl tk (EA.cons (plv (pv 0)) (EA.cons ev_int EA.nil))) (fun _ _ => rfl)) EA.nil)))) (ss_cons (es_me1 moApp_S (ps_expr (pe_bm PySem.F.plainAttrs_list PySem.F.slot_list_append PySem.F.type_list_append mt_append (plv (pv 3)) (pa_cons (ev_ty call_tuple_of opTuple_S rfl bl.tuple boot_tuple (EA.cons (ev_sl1 (plv (pv 2)) (ev_bin op_sub opSub_S (ev_bt call_lenA opLen_S rfl bl.len boot_len (EA.cons (plv (pv 2)) EA.nil)) (plv (pv 5)))) EA.nil)) pa_nil)))) (ss_one (es_set (i := 2) scLawTreeNet.nd rfl (by first | exact Or.inl rfl | exact Or.inr rfl) (ev_bin op_addA opAdd_S (ev_sl2 (plv (pv 2)) (ev_bin op_sub opSub_S (ev_bt call_lenA opLen_S rfl bl.len boot_len (EA.cons (plv (pv 2)) EA.nil)) (plv (pv 5)))) (ev_lst (EM.cons (ev_var (plv (pv 4))) EM.nil)))))))) (ss_one (es_ret (ev_ty call_tuple_of opTuple_S rfl bl.tuple boot_tuple (EA.cons (ev_bin op_addA opAdd_S (plv (pv 3)) (ev_lst (EM.cons (ev_ty call_tuple_of opTuple_S rfl bl.tuple boot_tuple (EA.cons (plv (pv 2)) EA.nil)) EM.nil))) EA.nil)))))))
theorem body_law_some_needs {f : Addr} (bl : Blt mg) (G__law_take : CalOk P w K mg base 1 "_law_take" 2 takeD) : BodyOk P w K mg base nLawSomeNeeds "_law_some_needs" s_law_some_needs f 1 Cm.g_law_some_needs := fun cdv A outer s H E S M hcl hr => by
  have tk : Takes (cxOf (L2.CX P w) P w K mg base nLawSomeNeeds "_law_some_needs" (defScope s_law_some_needs) f cdv A outer s H E) (fun cls d _ H' => E cls d H') := takes_of rfl rfl rfl rfl
  exact (ss_cons (es_set (i := 2) scLawSomeNeeds.nd rfl (by first | exact Or.inl rfl | exact Or.inr rfl) (ev_lst EM.nil)) (ss_cons (es_for (fg := [3, 4]) (passes_of rfl) rfl (ei_range1 rfl bl.range (ev_call G__law_take (hr.mono (by decide)) rfl hcl tk (EA.cons (plv (pv 0)) (EA.cons ev_int EA.nil)))) (eg_name (i := 3) scLawSomeNeeds.nd rfl (by first | exact Or.inl rfl | exact Or.inr rfl)) (ss_cons (es_set (i := 4) scLawSomeNeeds.nd rfl (by first | exact Or.inl rfl | exact Or.inr rfl) (ev_ix (ix_any (hu_of hr)) opIxA_S (ev_lst (EM.cons (ev_bt (call_min2 rfl) opMin2_S rfl bl.min boot_min (EA.cons (plv (pv 1)) (EA.cons ev_int EA.nil))) (EM.cons (ev_var (plv (pv 1))) EM.nil))) (ev_bin op_fdiv opFd_S (ev_call G__law_take (hr.mono (by decide)) rfl hcl tk (EA.cons (plv (pv 0)) (EA.cons ev_int EA.nil))) ev_int) (fun _ _ => rfl))) (ss_one (es_if (et_cmp op_gt opGt_S (nomark _) (plv (pv 1)) ev_int) (ss_one (es_me1 moApp_S (ps_expr (pe_bm PySem.F.plainAttrs_list PySem.F.slot_list_append PySem.F.type_list_append mt_append (plv (pv 2)) (pa_cons (ev_bin op_sub opSub_S (ev_bin op_sub opSub_S (plv (pv 1)) ev_int) (ev_call G__law_take (hr.mono (by decide)) rfl hcl tk (EA.cons (plv (pv 0)) (EA.cons (plv (pv 4)) EA.nil)))) pa_nil))))) ss_nil)))) (ss_one (es_ret (ev_ty call_tuple_of opTuple_S rfl bl.tuple boot_tuple (EA.cons (ev_sset rfl rfl bl.sorted rfl bl.set (plv (pv 2))) EA.nil))))))
theorem body_law_net {f : Addr} (bl : Blt mg) (G__law_take : CalOk P w K mg base 1 "_law_take" 2 takeD) (G__law_tree_net : CalOk P w K mg base 2 "_law_tree_net" 2 Cm.d_law_tree_net) (G__law_some_needs : CalOk P w K mg base 2 "_law_some_needs" 2 Cm.d_law_some_needs) : BodyOk P w K mg base nLawNet "_law_net" s_law_net f 2 Cm.g_law_net := fun cdv A outer s H E S M hcl hr => by
  have tk : Takes (cxOf (L2.CX P w) P w K mg base nLawNet "_law_net" (defScope s_law_net) f cdv A outer s H E) (fun cls d _ H' => E cls d H') := takes_of rfl rfl rfl rfl
  exact (ss_cons (es_set (i := 2) scLawNet.nd rfl (by first | exact Or.inl rfl | exact Or.inr rfl) (ev_call G__law_take (hr.mono (by decide)) rfl hcl tk (EA.cons (plv (pv 0)) (EA.cons ev_int EA.nil)))) (ss_cons (es_set (i := 3) scLawNet.nd rfl (by first | exact Or.inl rfl | exact Or.inr rfl) (ev_bin op_addA opAdd_S ev_int (ev_call G__law_take (hr.mono (by decide)) rfl hcl tk (EA.cons (plv (pv 0)) (EA.cons ev_int EA.nil))))) (ss_cons (es_if (et_cmp (op_eqA hr.units) opEq_S (nomark _) (plv (pv 2)) ev_int) (ss_one (es_ret (ev_ty call_tuple_of opTuple_S rfl bl.tuple boot_tuple (EA.cons (ev_lcN (own := [("_law_k", 4)]) rfl scLawNet.nd (ei_range1 rfl bl.range (plv (pv 1))) (blkOk_by (by first | (show blkC nLawNet (defScope s_law_net) _ _ = true; decide +kernel) | rfl)) (by decide) (fun _ _ _ _ _ => pg_name (i := 4) scLawNet.nd rfl (by first | exact Or.inl rfl | exact Or.inr rfl)) (fun _ _ _ _ _ => pts_nil) yes_imp (fun _ _ _ _ _ => (ev_tupRg2 rfl rfl bl.tuple rfl bl.range (ev_bt (call_max2 rfl) opMax2_S rfl bl.max boot_max (EA.cons ev_int (EA.cons (ev_bin op_sub opSub_S (plv (pv 4)) (plv (pv 3))) EA.nil))) (plv (pv 4))))) EA.nil)))) ss_nil) (ss_cons (es_if (et_cmp (op_eqA hr.units) opEq_S (nomark _) (plv (pv 2)) ev_int) (ss_cons (es_setLcN (own := [("_law_k", 4)]) rfl scLawNet.nd rfl rfl (sw_true rfl rfl rfl (by decide +kernel)) (ei_range1 rfl bl.range (plv (pv 1))) (blkOk_by (by first | (show blkC nLawNet (defScope s_law_net) _ _ = true; decide +kernel) | rfl)) (by decide) (fun _ _ _ _ _ => pg_name (i := 4) scLawNet.nd rfl (by first | exact Or.inl rfl | exact Or.inr rfl)) (fun _ _ _ _ _ => pts_nil) yes_imp (fun _ _ _ _ _ => (ev_bin op_addA opAdd_S (ev_bin op_mulA opMul_S (ev_lst (EM.cons (ev_bin op_sub opSub_S (plv (pv 4)) (plv (pv 3))) EM.nil)) (ev_ty call_int1 opInt_S rfl bl.int boot_int (EA.cons (ev_cmp op_ge opGe_S (nomark _) (plv (pv 4)) (plv (pv 3))) EA.nil))) (ev_bin op_mulA opMul_S (ev_lst (EM.cons (ev_bin op_sub opSub_S (plv (pv 4)) ev_int) EM.nil)) (ev_ty call_int1 opInt_S rfl bl.int boot_int (EA.cons (ev_cmp op_gt opGt_S (nomark _) (ev_bin op_mod opMd_S (plv (pv 4)) (plv (pv 3))) ev_int) EA.nil)))))) (ss_one (es_ret (ev_ty call_tuple_of opTuple_S rfl bl.tuple boot_tuple (EA.cons (ev_lcN (own := [("_law_needs", 6)]) rfl scLawNet.nd (ei_seq (ev_var (plv (pv 5)))) (blkOk_by (by first | (show blkC nLawNet (defScope s_law_net) _ _ = true; decide +kernel) | rfl)) (by decide) (fun _ _ _ _ _ => pg_name (i := 6) scLawNet.nd rfl (by first | exact Or.inl rfl | exact Or.inr rfl)) (fun _ _ _ _ _ => pts_nil) yes_imp (fun _ _ _ _ _ => (ev_ty call_tuple_of opTuple_S rfl bl.tuple boot_tuple (EA.cons (ev_sset rfl rfl bl.sorted rfl bl.set (plv (pv 6))) EA.nil)))) EA.nil))))) ss_nil) (ss_cons (es_if (et_cmp (op_eqA hr.units) opEq_S (nomark _) (plv (pv 2)) ev_int) (ss_one (es_ret (ev_call G__law_tree_net (hr.mono (by decide)) rfl hcl tk (EA.cons (plv (pv 0)) (EA.cons (plv (pv 1)) EA.nil))))) ss_nil) (ss_cons (es_if (et_cmp (op_eqA hr.units) opEq_S (nomark _) (plv (pv 2)) ev_int) (ss_cons (es_set (i := 7) scLawNet.nd rfl (by first | exact Or.inl rfl | exact Or.inr rfl) (ev_bin op_fdiv opFd_S (plv (pv 1)) ev_int)) (ss_cons (es_setLcN (own := [("_law_k", 4)]) rfl scLawNet.nd rfl rfl (sw_true rfl rfl rfl (by decide +kernel)) (ei_range1 rfl bl.range (plv (pv 1))) (blkOk_by (by first | (show blkC nLawNet (defScope s_law_net) _ _ = true; decide +kernel) | rfl)) (by decide) (fun _ _ _ _ _ => pg_name (i := 4) scLawNet.nd rfl (by first | exact Or.inl rfl | exact Or.inr rfl)) (fun _ _ _ _ _ => pts_nil) yes_imp (fun _ _ _ _ _ => (ev_call G__law_some_needs (hr.mono (by decide)) rfl hcl takes0 (EA.cons (plv (pv 0)) (EA.cons (ev_if (et_cmp op_lt opLt_S (nomark _) (plv (pv 4)) (plv (pv 7))) (ev_var (plv (pv 4))) (ev_bin op_sub opSub_S (plv (pv 4)) (plv (pv 7)))) EA.nil))))) (ss_one (es_ret (ev_ty call_tuple_of opTuple_S rfl bl.tuple boot_tuple (EA.cons (ev_lcT (own := [("_law_k", 4), ("_law_needs", 6)]) rfl scLawNet.nd (ei_enumL rfl bl.enumerate (ev_var (plv (pv 5)))) (blkOk_by (by first | (show blkC nLawNet (defScope s_law_net) _ _ = true; decide +kernel) | rfl)) (by decide) (fun _ _ _ _ _ => pg_tup rfl (EG.run scLawNet.nd (EG.cons rfl (by first | exact Or.inl rfl | exact Or.inr rfl) (EG.cons rfl (by first | exact Or.inl rfl | exact Or.inr rfl) EG.nil)))) (fun _ _ _ _ _ => pts_nil) yes_imp (fun _ _ _ _ _ => (ev_if (et_cmp op_lt opLt_S (nomark _) (plv (pv 4)) (plv (pv 7))) (ev_var (plv (pv 6))) (ev_ty call_tuple_of opTuple_S rfl bl.tuple boot_tuple (EA.cons (ev_lcN (own := [("_law_n", 8)]) rfl scLawNet.nd (ei_seq (ev_var (plv (pv 6)))) (blkOk_by (by first | (show blkC nLawNet (defScope s_law_net) _ _ = true; decide +kernel) | rfl)) (by decide) (fun _ _ _ _ _ => pg_name (i := 8) scLawNet.nd rfl (by first | exact Or.inl rfl | exact Or.inr rfl)) (fun _ _ _ _ _ => pts_nil) yes_imp (fun _ _ _ _ _ => (ev_bin op_addA opAdd_S (plv (pv 8)) (plv (pv 7))))) EA.nil))))) EA.nil)))))) ss_nil) (ss_one (es_ret (ev_ty call_tuple_of opTuple_S rfl bl.tuple boot_tuple (EA.cons (ev_lcN (own := [("_law_k", 4)]) rfl scLawNet.nd (ei_range1 rfl bl.range (plv (pv 1))) (blkOk_by (by first | (show blkC nLawNet (defScope s_law_net) _ _ = true; decide +kernel) | rfl)) (by decide) (fun _ _ _ _ _ => pg_name (i := 4) scLawNet.nd rfl (by first | exact Or.inl rfl | exact Or.inr rfl)) (fun _ _ _ _ _ => pts_nil) yes_imp (fun _ _ _ _ _ => (ev_call G__law_some_needs (hr.mono (by decide)) rfl hcl takes0 (EA.cons (plv (pv 0)) (EA.cons (plv (pv 4)) EA.nil))))) EA.nil))))))))))
theorem body_law_ins {f : Addr} (bl : Blt mg) (G__law_take : CalOk P w K mg base 1 "_law_take" 2 takeD) : BodyOk P w K mg base nLawIns "_law_ins" s_law_ins f 1 Cm.g_law_ins := fun cdv A outer s H E S M hcl hr => by
  have tk : Takes (cxOf (L2.CX P w) P w K mg base nLawIns "_law_ins" (defScope s_law_ins) f cdv A outer s H E) (fun cls d _ H' => E cls d H') := takes_of rfl rfl rfl rfl
  exact (ss_cons (es_set (i := 3) scLawIns.nd rfl (by first | exact Or.inl rfl | exact Or.inr rfl) (ev_listRg1 rfl rfl bl.list rfl bl.range (ev_bt call_lenA opLen_S rfl bl.len boot_len (EA.cons (plv (pv 1)) EA.nil)))) (ss_cons (es_set (i := 4) scLawIns.nd rfl (by first | exact Or.inl rfl | exact Or.inr rfl) (ev_lst EM.nil)) (ss_cons (es_for (fg := [5]) (passes_of rfl) rfl (ei_range1 rfl bl.range (ev_bt call_lenA opLen_S rfl bl.len boot_len (EA.cons (plv (pv 2)) EA.nil))) (eg_name (i := 5) scLawIns.nd rfl (by first | exact Or.inl rfl | exact Or.inr rfl)) (ss_one (es_if (et_w (ew_and (et_cmp (op_eqA hr.units) opEq_S (nomark _) (ev_ix (ix_any (hu_of hr)) opIxA_S (plv (pv 2)) (plv (pv 5)) (fun _ _ => rfl)) (ev_tup EM.nil)) (ew_and (et_cmp (op_neA hr.units) opNe_S (nomark _) (plv (pv 3)) (ev_lst EM.nil)) (ew_one_and (et_cmp op_gt opGt_S (nomark _) (ev_call G__law_take (hr.mono (by decide)) rfl hcl tk (EA.cons (plv (pv 0)) (EA.cons ev_int EA.nil))) ev_int))))) (ss_one (es_me1 moApp_S (ps_expr (pe_bm PySem.F.plainAttrs_list PySem.F.slot_list_append PySem.F.type_list_append mt_append (plv (pv 4)) (pa_cons (ev_tup (EM.cons (ev_var (plv (pv 5))) (EM.cons (ev_popAt (pe_bm PySem.F.plainAttrs_list PySem.F.slot_list_pop PySem.F.type_list_pop mt_popAt (plv (pv 3)) (pa_cons (ev_call G__law_take (hr.mono (by decide)) rfl hcl tk (EA.cons (plv (pv 0)) (EA.cons (ev_bt call_lenA opLen_S rfl bl.len boot_len (EA.cons (plv (pv 3)) EA.nil)) EA.nil))) pa_nil))) EM.nil))) pa_nil))))) ss_nil))) (ss_one (es_ret (ev_ix (ix_any (hu_of hr)) opIxA_S (ev_lst (EM.cons (ev_ty call_tupZ opTupZ_S rfl bl.tuple boot_tuple (EA.cons (plv (pv 4)) EA.nil)) (EM.cons ev_tupZ0 EM.nil))) (ev_ty call_int1 opInt_S rfl bl.int boot_int (EA.cons (ev_cmp (op_eqA hr.units) opEq_S (nomark _) (ev_call G__law_take (hr.mono (by decide)) rfl hcl tk (EA.cons (plv (pv 0)) (EA.cons ev_int EA.nil))) ev_int) EA.nil)) (fun _ _ => rfl)))))))
theorem body_numbers_behind {f : Addr} (bl : Blt mg) : BodyOk P w K mg base nNumbersBehind "numbers_behind" s_numbers_behind f 0 Cm.g_numbers_behind := fun cdv A outer s H E S M hcl hr => by
  have tk : Takes (cxOf (L2.CX P w) P w K mg base nNumbersBehind "numbers_behind" (defScope s_numbers_behind) f cdv A outer s H E) (fun cls d _ H' => E cls d H') := takes_of rfl rfl rfl rfl
  exact (ss_cons (es_set (i := 3) scNumbersBehind.nd rfl (by first | exact Or.inl rfl | exact Or.inr rfl) (ev_ty (call_dictZ rfl) opDictZ_S rfl bl.dict boot_dict (EA.cons (plv (pv 2)) EA.nil))) (ss_cons (es_set (i := 4) scNumbersBehind.nd rfl (by first | exact Or.inl rfl | exact Or.inr rfl) (ev_lst EM.nil)) (ss_cons (es_set (i := 5) scNumbersBehind.nd rfl (by first | exact Or.inl rfl | exact Or.inr rfl) (ev_bt call_lenA opLen_S rfl bl.len boot_len (EA.cons (plv (pv 0)) EA.nil))) (ss_cons (es_for (fg := [6]) (passes_of rfl) rfl (ei_range1 rfl bl.range (ev_bt call_lenA opLen_S rfl bl.len boot_len (EA.cons (plv (pv 1)) EA.nil))) (eg_name (i := 6) scNumbersBehind.nd rfl (by first | exact Or.inl rfl | exact Or.inr rfl)) (ss_one (es_if (et_cmp (op_inA (hu_of hr)) opIn_S rfl (plv (pv 6)) (plv (pv 3))) (ss_one (es_me1 moApp_S (ps_expr (pe_bm PySem.F.plainAttrs_list PySem.F.slot_list_append PySem.F.type_list_append mt_append (plv (pv 4)) (pa_cons (ev_ix (ix_any (hu_of hr)) opIxA_S (plv (pv 3)) (plv (pv 6)) (fun _ _ => rfl)) pa_nil))))) (ss_cons (es_me1 moApp_S (ps_expr (pe_bm PySem.F.plainAttrs_list PySem.F.slot_list_append PySem.F.type_list_append mt_append (plv (pv 4)) (pa_cons (ev_var (plv (pv 5))) pa_nil)))) (ss_one (es_aug (ps_aug (i := 5) scNumbersBehind.nd rfl (by first | exact Or.inl rfl | exact Or.inr rfl) ev_int ip_add))))))) (ss_one (es_ret (ev_move (plv (pv 4)))))))))
theorem body_put_behind {f : Addr} (bl : Blt mg) (G_numbers_behind : CalOk P w K mg base 1 "numbers_behind" 3 Cm.d_numbers_behind) : BodyOk P w K mg base nPutBehind "put_behind" s_put_behind f 1 Cm.g_put_behind := fun cdv A outer s H E S M hcl hr => by
  have tk : Takes (cxOf (L2.CX P w) P w K mg base nPutBehind "put_behind" (defScope s_put_behind) f cdv A outer s H E) (fun cls d _ H' => E cls d H') := takes_of rfl rfl rfl rfl
  exact (ss_cons (es_set (i := 3) scPutBehind.nd rfl (by first | exact Or.inl rfl | exact Or.inr rfl) (ev_call G_numbers_behind (hr.mono (by decide)) rfl hcl tk (EA.cons (plv (pv 0)) (EA.cons (plv (pv 1)) (EA.cons (plv (pv 2)) EA.nil))))) (ss_cons (es_set (i := 4) scPutBehind.nd rfl (by first | exact Or.inl rfl | exact Or.inr rfl) (ev_ty (call_dictZ rfl) opDictZ_S rfl bl.dict boot_dict (EA.cons (plv (pv 2)) EA.nil))) (ss_cons (es_set (i := 5) scPutBehind.nd rfl (by first | exact Or.inl rfl | exact Or.inr rfl) (ev_ty call_list_of opList_S rfl bl.list boot_list (EA.cons (plv (pv 0)) EA.nil))) (ss_cons (es_for (fg := [6, 7]) (passes_of rfl) rfl (ei_enA rfl bl.enumerate (ev_var (plv (pv 1)))) (eg_tup scPutBehind.nd rfl (EG.cons rfl (by first | exact Or.inl rfl | exact Or.inr rfl) (EG.cons rfl (by first | exact Or.inl rfl | exact Or.inr rfl) EG.nil))) (ss_one (es_if (et_cmp (op_notInA (hu_of hr)) opIn_S rfl (plv (pv 6)) (plv (pv 4))) (ss_one (es_me1 moApp_S (ps_expr (pe_bm PySem.F.plainAttrs_list PySem.F.slot_list_append PySem.F.type_list_append mt_append (plv (pv 5)) (pa_cons (ev_ty call_tuple_of opTuple_S rfl bl.tuple boot_tuple (EA.cons (ev_bt (cr_sortA rfl) opSort_S rfl bl.sorted boot_sorted (EA.cons (ev_lcN (own := [("need", 8)]) rfl scPutBehind.nd (ei_seq (ev_var (plv (pv 7)))) (blkOk_by (by first | (show blkC nPutBehind (defScope s_put_behind) _ _ = true; decide +kernel) | rfl)) (by decide) (fun _ _ _ _ _ => pg_name (i := 8) scPutBehind.nd rfl (by first | exact Or.inl rfl | exact Or.inr rfl)) (fun _ _ _ _ _ => pts_nil) yes_imp (fun _ _ _ _ _ => (ev_ix (ix_any (hu_of hr)) opIxA_S (plv (pv 3)) (plv (pv 8)) (fun _ _ => rfl)))) EA.nil)) EA.nil)) pa_nil))))) ss_nil))) (ss_one (es_ret (ev_ty call_tuple_of opTuple_S rfl bl.tuple boot_tuple (EA.cons (plv (pv 5)) EA.nil))))))))
theorem body_is_work_below {f : Addr} (bl : Blt mg) : BodyOk P w K mg base nIsWorkBelow "is_work_below" s_is_work_below f 0 Cm.g_is_work_below := fun cdv A outer s H E S M hcl hr => by
  have tk : Takes (cxOf (L2.CX P w) P w K mg base nIsWorkBelow "is_work_below" (defScope s_is_work_below) f cdv A outer s H E) (fun cls d _ H' => E cls d H') := takes_of rfl rfl rfl rfl
  exact (ss_one (es_ret (ev_and (ev_isi .int rfl bl.isinstance rfl bl.int (by decide +kernel) (plv (pv 0))) (ev_and (ev_not (ev_isi .bool rfl bl.isinstance rfl bl.bool (by decide +kernel) (plv (pv 0)))) (ev_one (ev_ch (c1 := (fun i j => decide (i ≤ j))) (c2 := (fun i j => decide (i < j))) op_le op_lt ev_int (ev_var (plv (pv 0))) (ev_var (plv (pv 1)))))))))
theorem body_are_needs {f : Addr} (bl : Blt mg) (G_is_work_below : CalOk P w K mg base 1 "is_work_below" 2 Cm.d_is_work_below) : BodyOk P w K mg base nAreNeeds "are_needs" s_are_needs f 1 Cm.g_are_needs := fun cdv A outer s H E S M hcl hr => by
  have tk : Takes (cxOf (L2.CX P w) P w K mg base nAreNeeds "are_needs" (defScope s_are_needs) f cdv A outer s H E) (fun cls d _ H' => E cls d H') := takes_of rfl rfl rfl rfl
  exact (ss_cons (es_if (et_w (ew_or (et_not (et_val (ev_isi .tuple rfl bl.isinstance rfl bl.tuple (by decide +kernel) (plv (pv 0))))) (ew_one_or (et_not (et_val (ev_bt (cr_all rfl) opAll_S rfl bl.all boot_all (EA.cons (ev_lcN (own := [("need", 2)]) rfl scAreNeeds.nd (ei_seq (ev_var (plv (pv 0)))) (blkOk_by (by first | (show blkC nAreNeeds (defScope s_are_needs) _ _ = true; decide +kernel) | rfl)) (by decide) (fun _ _ _ _ _ => pg_name (i := 2) scAreNeeds.nd rfl (by first | exact Or.inl rfl | exact Or.inr rfl)) (fun _ _ _ _ _ => pts_nil) yes_imp (fun _ _ _ _ _ => (ev_call G_is_work_below (hr.mono (by decide)) rfl hcl takes0 (EA.cons (plv (pv 2)) (EA.cons (plv (pv 1)) EA.nil))))) EA.nil))))))) (ss_one (es_ret ev_bl)) ss_nil) (ss_one (es_ret (ev_bt (cr_all rfl) opAll_S rfl bl.all boot_all (EA.cons (ev_lcT (own := [("one", 3), ("other", 4)]) rfl scAreNeeds.nd (ei_zip rfl bl.zip (ev_var (plv (pv 0))) (ev_sl1 (plv (pv 0)) ev_int)) (blkOk_by (by first | (show blkC nAreNeeds (defScope s_are_needs) _ _ = true; decide +kernel) | rfl)) (by decide) (fun _ _ _ _ _ => pg_tup rfl (EG.run scAreNeeds.nd (EG.cons rfl (by first | exact Or.inl rfl | exact Or.inr rfl) (EG.cons rfl (by first | exact Or.inl rfl | exact Or.inr rfl) EG.nil)))) (fun _ _ _ _ _ => pts_nil) yes_imp (fun _ _ _ _ _ => (ev_cmp op_lt opLt_S (nomark _) (plv (pv 3)) (plv (pv 4))))) EA.nil)))))
theorem body_is_net {f : Addr} (bl : Blt mg) (G_are_needs : CalOk P w K mg base 2 "are_needs" 2 Cm.d_are_needs) : BodyOk P w K mg base nIsNet "is_net" s_is_net f 2 Cm.g_is_net := fun cdv A outer s H E S M hcl hr => by
  have tk : Takes (cxOf (L2.CX P w) P w K mg base nIsNet "is_net" (defScope s_is_net) f cdv A outer s H E) (fun cls d _ H' => E cls d H') := takes_of rfl rfl rfl rfl
  exact (ss_cons (es_if (et_w (ew_or (et_not (et_val (ev_isi .tuple rfl bl.isinstance rfl bl.tuple (by decide +kernel) (plv (pv 0))))) (ew_one_or (et_cmp (op_eqA hr.units) opEq_S (nomark _) (ev_bt call_lenA opLen_S rfl bl.len boot_len (EA.cons (plv (pv 0)) EA.nil)) ev_int)))) (ss_one (es_ret ev_bl)) ss_nil) (ss_one (es_ret (ev_bt (cr_all rfl) opAll_S rfl bl.all boot_all (EA.cons (ev_lcT (own := [("work", 1), ("needs", 2)]) rfl scIsNet.nd (ei_enA rfl bl.enumerate (ev_var (plv (pv 0)))) (blkOk_by (by first | (show blkC nIsNet (defScope s_is_net) _ _ = true; decide +kernel) | rfl)) (by decide) (fun _ _ _ _ _ => pg_tup rfl (EG.run scIsNet.nd (EG.cons rfl (by first | exact Or.inl rfl | exact Or.inr rfl) (EG.cons rfl (by first | exact Or.inl rfl | exact Or.inr rfl) EG.nil)))) (fun _ _ _ _ _ => pts_nil) yes_imp (fun _ _ _ _ _ => (ev_call G_are_needs (hr.mono (by decide)) rfl hcl takes0 (EA.cons (plv (pv 2)) (EA.cons (plv (pv 1)) EA.nil))))) EA.nil)))))
theorem body_all_needed {f : Addr} (bl : Blt mg) : BodyOk P w K mg base nAllNeeded "all_needed" s_all_needed f 0 Cm.g_all_needed := fun cdv A outer s H E S M hcl hr => by
  have tk : Takes (cxOf (L2.CX P w) P w K mg base nAllNeeded "all_needed" (defScope s_all_needed) f cdv A outer s H E) (fun cls d _ H' => E cls d H') := takes_of rfl rfl rfl rfl
  exact (ss_cons (es_set (i := 2) scAllNeeded.nd rfl (by first | exact Or.inl rfl | exact Or.inr rfl) (ev_bin op_mulA opMul_S (ev_lst (EM.cons ev_bl EM.nil)) (ev_bt call_lenA opLen_S rfl bl.len boot_len (EA.cons (plv (pv 0)) EA.nil)))) (ss_cons (es_for (fg := [3]) (passes_of rfl) rfl (ei_seq (ev_var (plv (pv 1)))) (eg_name (i := 3) scAllNeeded.nd rfl (by first | exact Or.inl rfl | exact Or.inr rfl)) (ss_one (es_seti (ps_asg ev_bl (pg_sub (plv (pv 2)) (ev_var (plv (pv 3))) (set_any (hu_of hr))))))) (ss_cons (es_for (fg := [3, 4]) (passes_of rfl) rfl (ei_range3 rfl bl.range (ev_bin op_sub opSub_S (ev_bt call_lenA opLen_S rfl bl.len boot_len (EA.cons (plv (pv 0)) EA.nil)) ev_int) (ev_un un_neg opNeg_S ev_int) (ev_un un_neg opNeg_S ev_int)) (eg_name (i := 3) scAllNeeded.nd rfl (by first | exact Or.inl rfl | exact Or.inr rfl)) (ss_one (es_if (et_val (ev_ix (ix_any (hu_of hr)) opIxA_S (plv (pv 2)) (plv (pv 3)) (fun _ _ => rfl))) (ss_one (es_for (fg := [4]) (passes_of rfl) rfl (ei_seq (ev_ix (ix_any (hu_of hr)) opIxA_S (plv (pv 0)) (plv (pv 3)) (fun _ _ => rfl))) (eg_name (i := 4) scAllNeeded.nd rfl (by first | exact Or.inl rfl | exact Or.inr rfl)) (ss_one (es_seti (ps_asg ev_bl (pg_sub (plv (pv 2)) (ev_var (plv (pv 4))) (set_any (hu_of hr)))))))) ss_nil))) (ss_one (es_ret (ev_lcN (own := [("work", 3)]) rfl scAllNeeded.nd (ei_range1 rfl bl.range (ev_bt call_lenA opLen_S rfl bl.len boot_len (EA.cons (plv (pv 0)) EA.nil))) (blkOk_by (by first | (show blkC nAllNeeded (defScope s_all_needed) _ _ = true; decide +kernel) | rfl)) (by decide) (fun _ _ _ _ _ => pg_name (i := 3) scAllNeeded.nd rfl (by first | exact Or.inl rfl | exact Or.inr rfl)) (fun _ _ _ _ _ => pts_one (et_val (ev_ix (ix_any (hu_of hr)) opIxA_S (plv (pv 2)) (plv (pv 3)) (fun _ _ => rfl)))) id_imp (fun _ _ _ _ _ => (ev_var (plv (pv 3))))))))))
theorem body_number_behind {f : Addr} (bl : Blt mg) (G_numbers_behind : CalOk P w K mg base 1 "numbers_behind" 3 Cm.d_numbers_behind) : BodyOk P w K mg base nNumberBehind "number_behind" s_number_behind f 1 Cm.g_number_behind := fun cdv A outer s H E S M hcl hr => by
  have tk : Takes (cxOf (L2.CX P w) P w K mg base nNumberBehind "number_behind" (defScope s_number_behind) f cdv A outer s H E) (fun cls d _ H' => E cls d H') := takes_of rfl rfl rfl rfl
  exact (ss_one (es_ret (ev_ixT (ev_call G_numbers_behind (hr.mono (by decide)) rfl hcl tk (EA.cons (plv (pv 0)) (EA.cons (plv (pv 1)) (EA.cons (plv (pv 2)) EA.nil)))) (ev_var (plv (pv 3))) (fun _ _ => rfl))))
theorem body_law_put_right {f : Addr} (bl : Blt mg) (G_put_behind : CalOk P w K mg base 2 "put_behind" 3 Cm.d_put_behind) (G_is_net : CalOk P w K mg base 3 "is_net" 1 Cm.d_is_net) (G_all_needed : CalOk P w K mg base 1 "all_needed" 2 Cm.d_all_needed) (G_number_behind : CalOk P w K mg base 2 "number_behind" 4 Cm.d_number_behind) : BodyOk P w K mg base nLawPutRight "_law_put_right" s_law_put_right f 3 Cm.g_law_put_right := fun cdv A outer s H E S M hcl hr => by
  have tk : Takes (cxOf (L2.CX P w) P w K mg base nLawPutRight "_law_put_right" (defScope s_law_put_right) f cdv A outer s H E) (fun cls d _ H' => E cls d H') := takes_of rfl rfl rfl rfl
  exact (ss_cons (es_set (i := 3) scLawPutRight.nd rfl (by first | exact Or.inl rfl | exact Or.inr rfl) (ev_call G_put_behind (hr.mono (by decide)) rfl hcl tk (EA.cons (plv (pv 0)) (EA.cons (plv (pv 1)) (EA.cons (plv (pv 2)) EA.nil))))) (ss_cons (es_if (et_w (ew_or (et_cmp op_isnot_bl opIsNB_S (nomark _) (ev_call G_is_net (hr.mono (by decide)) rfl hcl tk (EA.cons (plv (pv 3)) EA.nil)) ev_bl) (ew_or (et_cmp (op_neA hr.units) opNe_S (nomark _) (ev_sl2 (plv (pv 3)) (ev_bt call_lenA opLen_S rfl bl.len boot_len (EA.cons (plv (pv 0)) EA.nil))) (plv (pv 0))) (ew_one_or (et_cmp (op_neA hr.units) opNe_S (nomark _) (ev_bt call_lenA opLen_S rfl bl.len boot_len (EA.cons (plv (pv 3)) EA.nil)) (ev_bin op_sub opSub_S (ev_bin op_addA opAdd_S (ev_bt call_lenA opLen_S rfl bl.len boot_len (EA.cons (plv (pv 0)) EA.nil)) (ev_bt call_lenA opLen_S rfl bl.len boot_len (EA.cons (plv (pv 1)) EA.nil))) (ev_bt call_lenA opLenZ_S rfl bl.len boot_len (EA.cons (plv (pv 2)) EA.nil)))))))) (ss_one (es_ret ev_bl)) ss_nil) (ss_cons (es_for (fg := [4, 5, 7]) (passes_of rfl) rfl (ei_range1 rfl bl.range (ev_bt call_lenA opLen_S rfl bl.len boot_len (EA.cons (plv (pv 1)) EA.nil))) (eg_name (i := 4) scLawPutRight.nd rfl (by first | exact Or.inl rfl | exact Or.inr rfl)) (ss_cons (es_set (i := 5) scLawPutRight.nd rfl (by first | exact Or.inl rfl | exact Or.inr rfl) (ev_lcN (own := [("_law_need", 6)]) rfl scLawPutRight.nd (ei_seq (ev_call G_all_needed (hr.mono (by decide)) rfl hcl tk (EA.cons (plv (pv 1)) (EA.cons (ev_tup (EM.cons (ev_var (plv (pv 4))) EM.nil)) EA.nil)))) (blkOk_by (by first | (show blkC nLawPutRight (defScope s_law_put_right) _ _ = true; decide +kernel) | rfl)) (by decide) (fun _ _ _ _ _ => pg_name (i := 6) scLawPutRight.nd rfl (by first | exact Or.inl rfl | exact Or.inr rfl)) (fun _ _ _ _ _ => pts_nil) yes_imp (fun _ _ _ _ _ => (ev_call G_number_behind (hr.mono (by decide)) rfl hcl takes0 (EA.cons (plv (pv 0)) (EA.cons (plv (pv 1)) (EA.cons (plv (pv 2)) (EA.cons (plv (pv 6)) EA.nil)))))))) (ss_cons (es_set (i := 7) scLawPutRight.nd rfl (by first | exact Or.inl rfl | exact Or.inr rfl) (ev_call G_all_needed (hr.mono (by decide)) rfl hcl tk (EA.cons (plv (pv 3)) (EA.cons (ev_tup (EM.cons (ev_call G_number_behind (hr.mono (by decide)) rfl hcl tk (EA.cons (plv (pv 0)) (EA.cons (plv (pv 1)) (EA.cons (plv (pv 2)) (EA.cons (plv (pv 4)) EA.nil))))) EM.nil)) EA.nil)))) (ss_cons (es_if (et_not (et_val (ev_bt (cr_all rfl) opAll_S rfl bl.all boot_all (EA.cons (ev_lcN (own := [("_law_need", 6)]) rfl scLawPutRight.nd (ei_seq (ev_var (plv (pv 5)))) (blkOk_by (by first | (show blkC nLawPutRight (defScope s_law_put_right) _ _ = true; decide +kernel) | rfl)) (by decide) (fun _ _ _ _ _ => pg_name (i := 6) scLawPutRight.nd rfl (by first | exact Or.inl rfl | exact Or.inr rfl)) (fun _ _ _ _ _ => pts_nil) yes_imp (fun _ _ _ _ _ => (ev_cmp (op_inA (hu_of hr)) opIn_S rfl (plv (pv 6)) (plv (pv 7))))) EA.nil)))) (ss_one (es_ret ev_bl)) ss_nil) (ss_one (es_if (et_not (et_val (ev_bt (cr_all rfl) opAll_S rfl bl.all boot_all (EA.cons (ev_lcN (own := [("_law_need", 6)]) rfl scLawPutRight.nd (ei_seq (ev_var (plv (pv 7)))) (blkOk_by (by first | (show blkC nLawPutRight (defScope s_law_put_right) _ _ = true; decide +kernel) | rfl)) (by decide) (fun _ _ _ _ _ => pg_name (i := 6) scLawPutRight.nd rfl (by first | exact Or.inl rfl | exact Or.inr rfl)) (fun _ _ _ _ _ => pts_nil) yes_imp (fun _ _ _ _ _ => (ev_or (ev_cmp (op_inA (hu_of hr)) opIn_S rfl (plv (pv 6)) (plv (pv 5))) (ev_one (ev_cmp op_lt opLt_S (nomark _) (plv (pv 6)) (ev_bt call_lenA opLen_S rfl bl.len boot_len (EA.cons (plv (pv 0)) EA.nil))))))) EA.nil)))) (ss_one (es_ret ev_bl)) ss_nil)))))) (ss_one (es_ret ev_bl)))))
theorem body_plan_in {f : Addr} (bl : Blt mg) : BodyOk P w K mg base nPlanIn "plan_in" s_plan_in f 0 Cm.g_plan_in := fun cdv A outer s H E S M hcl hr => by
  have tk : Takes (cxOf (L2.CX P w) P w K mg base nPlanIn "plan_in" (defScope s_plan_in) f cdv A outer s H E) (fun cls d _ H' => E cls d H') := takes_of rfl rfl rfl rfl
  exact (ss_cons (es_set (i := 3) scPlanIn.nd rfl (by first | exact Or.inl rfl | exact Or.inr rfl) ev_newK) (ss_cons (es_for (fg := [4, 5, 6]) (passes_of rfl) rfl (ei_enumL rfl bl.enumerate (ev_var (plv (pv 2)))) (eg_tup scPlanIn.nd rfl (EG.cons rfl (by first | exact Or.inl rfl | exact Or.inr rfl) (EG.cons rfl (by first | exact Or.inl rfl | exact Or.inr rfl) EG.nil))) (ss_one (es_for (fg := [6]) (passes_of rfl) rfl (ei_seq (ev_ix (ix_any (hu_of hr)) opIxA_S (plv (pv 0)) (plv (pv 5)) (fun _ _ => rfl))) (eg_name (i := 6) scPlanIn.nd rfl (by first | exact Or.inl rfl | exact Or.inr rfl)) (ss_one (es_seti (ps_asg (ev_var (plv (pv 4))) (pg_sub (plv (pv 3)) (ev_var (plv (pv 6))) (set_any (hu_of hr))))))))) (ss_cons (es_set (i := 7) scPlanIn.nd rfl (by first | exact Or.inl rfl | exact Or.inr rfl) (ev_lst EM.nil)) (ss_cons (es_for (fg := [4, 5]) (passes_of rfl) rfl (ei_enumL rfl bl.enumerate (ev_var (plv (pv 2)))) (eg_tup scPlanIn.nd rfl (EG.cons rfl (by first | exact Or.inl rfl | exact Or.inr rfl) (EG.cons rfl (by first | exact Or.inl rfl | exact Or.inr rfl) EG.nil))) (ss_cons (es_me1 moApp_S (ps_expr (pe_bm PySem.F.plainAttrs_list PySem.F.slot_list_append PySem.F.type_list_append mt_append (plv (pv 7)) (pa_cons (ev_tup (EM.cons ev_str (EM.cons (ev_var (plv (pv 5))) EM.nil))) pa_nil)))) (ss_one (es_me1 moExt_S (ps_expr (pe_bm PySem.F.plainAttrs_list PySem.F.slot_list_extend PySem.F.type_list_extend mt_extA (plv (pv 7)) (pa_cons (ev_lcN (own := [("need", 6)]) rfl scPlanIn.nd (ei_seq (ev_ix (ix_any (hu_of hr)) opIxA_S (plv (pv 0)) (plv (pv 5)) (fun _ _ => rfl))) (blkOk_by (by first | (show blkC nPlanIn (defScope s_plan_in) _ _ = true; decide +kernel) | rfl)) (by decide) (fun _ _ _ _ _ => pg_name (i := 6) scPlanIn.nd rfl (by first | exact Or.inl rfl | exact Or.inr rfl)) (fun _ _ _ _ _ => pts_one (et_w (ew_and (et_cmp (op_eqA hr.units) opEq_S (nomark _) (ev_ix (ix_any (hu_of hr)) opIxA_S (plv (pv 3)) (plv (pv 6)) (fun _ _ => rfl)) (plv (pv 4))) (ew_one_and (et_cmp (op_notInA (hu_of hr)) opIn_S rfl (plv (pv 6)) (plv (pv 1))))))) id_imp (fun _ _ _ _ _ => (ev_tup (EM.cons ev_str (EM.cons (ev_var (plv (pv 6))) EM.nil))))) pa_nil))))))) (ss_one (es_ret (ev_move (plv (pv 7)))))))))
theorem body_plain_plan {f : Addr} (bl : Blt mg) (G_plan_in : CalOk P w K mg base 1 "plan_in" 3 Cm.d_plan_in) (G_all_needed : CalOk P w K mg base 1 "all_needed" 2 Cm.d_all_needed) : BodyOk P w K mg base nPlainPlan "plain_plan" s_plain_plan f 1 Cm.g_plain_plan := fun cdv A outer s H E S M hcl hr => by
  have tk : Takes (cxOf (L2.CX P w) P w K mg base nPlainPlan "plain_plan" (defScope s_plain_plan) f cdv A outer s H E) (fun cls d _ H' => E cls d H') := takes_of rfl rfl rfl rfl
  exact (ss_one (es_ret (ev_call G_plan_in (hr.mono (by decide)) rfl hcl tk (EA.cons (plv (pv 0)) (EA.cons (plv (pv 1)) (EA.cons (ev_call G_all_needed (hr.mono (by decide)) rfl hcl tk (EA.cons (plv (pv 0)) (EA.cons (plv (pv 1)) EA.nil))) EA.nil))))))
theorem body_plan_behind {f : Addr} (bl : Blt mg) (G_numbers_behind : CalOk P w K mg base 1 "numbers_behind" 3 Cm.d_numbers_behind) (G_plain_plan : CalOk P w K mg base 2 "plain_plan" 2 Cm.d_plain_plan) {t_DO : Tok} (c_DO : mg "DO" = some (.str "do" t_DO)) {t_CLEAR : Tok} (c_CLEAR : mg "CLEAR" = some (.str "clear" t_CLEAR)) : BodyOk P w K mg base nPlanBehind "plan_behind" s_plan_behind f 2 Cm.g_plan_behind := fun cdv A outer s H E S M hcl hr => by
  have tk : Takes (cxOf (L2.CX P w) P w K mg base nPlanBehind "plan_behind" (defScope s_plan_behind) f cdv A outer s H E) (fun cls d _ H' => E cls d H') := takes_of rfl rfl rfl rfl
  exact (ss_cons (es_set (i := 4) scPlanBehind.nd rfl (by first | exact Or.inl rfl | exact Or.inr rfl) (ev_call G_numbers_behind (hr.mono (by decide)) rfl hcl tk (EA.cons (plv (pv 0)) (EA.cons (plv (pv 1)) (EA.cons (plv (pv 2)) EA.nil))))) (ss_cons (es_set (i := 5) scPlanBehind.nd rfl (by first | exact Or.inl rfl | exact Or.inr rfl) (ev_ty (call_dictZ rfl) opDictZ_S rfl bl.dict boot_dict (EA.cons (plv (pv 2)) EA.nil))) (ss_cons (es_set (i := 6) scPlanBehind.nd rfl (by first | exact Or.inl rfl | exact Or.inr rfl) ev_newK) (ss_cons (es_set (i := 7) scPlanBehind.nd rfl (by first | exact Or.inl rfl | exact Or.inr rfl) (ev_lst EM.nil)) (ss_cons (es_for (fg := [8, 9, 10]) (passes_of rfl) rfl (ei_seq (ev_var (plv (pv 3)))) (eg_tup scPlanBehind.nd rfl (EG.cons rfl (by first | exact Or.inl rfl | exact Or.inr rfl) (EG.cons rfl (by first | exact Or.inl rfl | exact Or.inr rfl) EG.nil))) (ss_cons (es_set (i := 10) scPlanBehind.nd rfl (by first | exact Or.inl rfl | exact Or.inr rfl) (ev_lst (EM.cons (ev_tup (EM.cons (ev_var (plv (pv 8))) (EM.cons (ev_ix (ix_any (hu_of hr)) opIxA_S (plv (pv 4)) (plv (pv 9)) (fun _ _ => rfl)) EM.nil))) EM.nil))) (ss_cons (es_if (et_w (ew_and (et_cmp (op_eqA hr.units) opEq_S (nomark _) (plv (pv 8)) (ev_gstr rfl c_DO)) (ew_one_and (et_cmp (op_inA (hu_of hr)) opIn_S rfl (plv (pv 9)) (plv (pv 5)))))) (ss_one (es_setLcN (own := [("move", 11)]) rfl scPlanBehind.nd rfl rfl (sw_true rfl rfl rfl (by decide +kernel)) (ei_seq (ev_call G_plain_plan (hr.mono (by decide)) rfl hcl tk (EA.cons (plv (pv 0)) (EA.cons (ev_tup (EM.cons (ev_ix (ix_any (hu_of hr)) opIxA_S (plv (pv 5)) (plv (pv 9)) (fun _ _ => rfl)) EM.nil)) EA.nil)))) (blkOk_by (by first | (show blkC nPlanBehind (defScope s_plan_behind) _ _ = true; decide +kernel) | rfl)) (by decide) (fun _ _ _ _ _ => pg_name (i := 11) scPlanBehind.nd rfl (by first | exact Or.inl rfl | exact Or.inr rfl)) (fun _ _ _ _ _ => pts_one (et_cmp (op_notInA (hu_of hr)) opIn_S rfl (ev_ix (ix_any (hu_of hr)) opIxA_S (plv (pv 11)) ev_int (fun _ _ => rfl)) (plv (pv 6)))) id_imp (fun _ _ _ _ _ => (ev_var (plv (pv 11)))))) ss_nil) (ss_cons (es_me1 moExt_S (ps_expr (pe_bm PySem.F.plainAttrs_list PySem.F.slot_list_extend PySem.F.type_list_extend mt_extA (plv (pv 7)) (pa_cons (ev_var (plv (pv 10))) pa_nil)))) (ss_one (es_if (et_cmp (op_eqA hr.units) opEq_S (nomark _) (plv (pv 8)) (ev_gstr rfl c_CLEAR)) (ss_one (es_drop (ev_dpop (pe_dpop1 (plv (pv 6)) (ev_ix (ix_any (hu_of hr)) opIxA_S (plv (pv 4)) (plv (pv 9)) (fun _ _ => rfl)) ⟨rfl, rfl, rfl, rfl⟩)))) (ss_one (es_seti (ps_asg ev_bl (pg_sub (plv (pv 6)) (ev_ix (ix_any (hu_of hr)) opIxA_S (plv (pv 4)) (plv (pv 9)) (fun _ _ => rfl)) (set_any (hu_of hr)))))))))))) (ss_one (es_ret (ev_move (plv (pv 7))))))))))
theorem body_fault_of {f : Addr} (bl : Blt mg) {t_CLEAR : Tok} (c_CLEAR : mg "CLEAR" = some (.str "clear" t_CLEAR)) : BodyOk P w K mg base nFaultOf "fault_of" s_fault_of f 0 Cm.g_fault_of := fun cdv A outer s H E S M hcl hr => by
  have tk : Takes (cxOf (L2.CX P w) P w K mg base nFaultOf "fault_of" (defScope s_fault_of) f cdv A outer s H E) (fun cls d _ H' => E cls d H') := takes_of rfl rfl rfl rfl
  exact (ss_cons (es_asT (ev_var (plv (pv 3))) (eg_tup scFaultOf.nd rfl (EG.cons rfl (by first | exact Or.inl rfl | exact Or.inr rfl) (EG.cons rfl (by first | exact Or.inl rfl | exact Or.inr rfl) EG.nil)))) (ss_cons (es_set (i := 6) scFaultOf.nd rfl (by first | exact Or.inl rfl | exact Or.inr rfl) (ev_cmp (op_inA (hu_of hr)) opIn_S rfl (plv (pv 5)) (plv (pv 2)))) (ss_cons (es_if (et_cmp (op_eqA hr.units) opEq_S (nomark _) (plv (pv 4)) (ev_gstr rfl c_CLEAR)) (ss_one (es_ret (ev_if (et_val (ev_var (plv (pv 6)))) ev_non ev_str))) ss_nil) (ss_cons (es_if (et_val (ev_var (plv (pv 6)))) (ss_one (es_ret ev_str)) ss_nil) (ss_cons (es_if (et_not (et_val (ev_bt (cr_all rfl) opAll_S rfl bl.all boot_all (EA.cons (ev_lcN (own := [("need", 7)]) rfl scFaultOf.nd (ei_seq (ev_ix (ix_any (hu_of hr)) opIxA_S (plv (pv 0)) (plv (pv 5)) (fun _ _ => rfl))) (blkOk_by (by first | (show blkC nFaultOf (defScope s_fault_of) _ _ = true; decide +kernel) | rfl)) (by decide) (fun _ _ _ _ _ => pg_name (i := 7) scFaultOf.nd rfl (by first | exact Or.inl rfl | exact Or.inr rfl)) (fun _ _ _ _ _ => pts_nil) yes_imp (fun _ _ _ _ _ => (ev_cmp (op_inA (hu_of hr)) opIn_S rfl (plv (pv 7)) (plv (pv 2))))) EA.nil)))) (ss_one (es_ret ev_str)) ss_nil) (ss_one (es_ret (ev_if (et_cmp op_lt opLt_S (nomark _) (ev_bt call_lenA opLen_S rfl bl.len boot_len (EA.cons (plv (pv 2)) EA.nil)) (plv (pv 1))) ev_non ev_str))))))))
theorem body_stand_behind {f : Addr} (bl : Blt mg) {t_DO : Tok} (c_DO : mg "DO" = some (.str "do" t_DO)) : BodyOk P w K mg base nStandBehind "stand_behind" s_stand_behind f 0 Cm.g_stand_behind := fun cdv A outer s H E S M hcl hr => by
  have tk : Takes (cxOf (L2.CX P w) P w K mg base nStandBehind "stand_behind" (defScope s_stand_behind) f cdv A outer s H E) (fun cls d _ H' => E cls d H') := takes_of rfl rfl rfl rfl
  exact (ss_cons (es_asT (ev_var (plv (pv 1))) (eg_tup scStandBehind.nd rfl (EG.cons rfl (by first | exact Or.inl rfl | exact Or.inr rfl) (EG.cons rfl (by first | exact Or.inl rfl | exact Or.inr rfl) EG.nil)))) (ss_cons (es_if (et_cmp (op_eqA hr.units) opEq_S (nomark _) (plv (pv 2)) (ev_gstr rfl c_DO)) (ss_one (es_ret (ev_ty call_tuple_of opTuple_S rfl bl.tuple boot_tuple (EA.cons (ev_bt (cr_sortA rfl) opSort_S rfl bl.sorted boot_sorted (EA.cons (ev_bin op_addA opAdd_S (plv (pv 0)) (ev_tup (EM.cons (ev_var (plv (pv 3))) EM.nil))) EA.nil)) EA.nil)))) ss_nil) (ss_one (es_ret (ev_ty call_tuple_of opTuple_S rfl bl.tuple boot_tuple (EA.cons (ev_lcN (own := [("other", 4)]) rfl scStandBehind.nd (ei_seq (ev_var (plv (pv 0)))) (blkOk_by (by first | (show blkC nStandBehind (defScope s_stand_behind) _ _ = true; decide +kernel) | rfl)) (by decide) (fun _ _ _ _ _ => pg_name (i := 4) scStandBehind.nd rfl (by first | exact Or.inl rfl | exact Or.inr rfl)) (fun _ _ _ _ _ => pts_one (et_cmp (op_neA hr.units) opNe_S (nomark _) (plv (pv 4)) (plv (pv 3)))) id_imp (fun _ _ _ _ _ => (ev_var (plv (pv 4))))) EA.nil))))))
theorem body_moved {f : Addr} (bl : Blt mg) (G_fault_of : CalOk P w K mg base 1 "fault_of" 4 Cm.d_fault_of) (G_stand_behind : CalOk P w K mg base 1 "stand_behind" 2 Cm.d_stand_behind) (xf : XFacts K mg) (I_Barred : InitOk P w K mg base 1 "Barred" 2 flBar) : BodyOk P w K mg base nMoved "moved" s_moved f 2 Cm.g_moved := fun cdv A outer s H E S M hcl hr => by
  have tk : Takes (cxOf (L2.CX P w) P w K mg base nMoved "moved" (defScope s_moved) f cdv A outer s H E) (fun cls d _ H' => E cls d H') := takes_of rfl rfl rfl rfl
  exact (ss_cons (es_set (i := 4) scMoved.nd rfl (by first | exact Or.inl rfl | exact Or.inr rfl) (ev_call G_fault_of (hr.mono (by decide)) rfl hcl tk (EA.cons (plv (pv 0)) (EA.cons (plv (pv 1)) (EA.cons (plv (pv 2)) (EA.cons (plv (pv 3)) EA.nil)))))) (ss_cons (es_if (et_cmp op_notN opNoN_S (nomark _) (plv (pv 4)) ev_non) (ss_one (es_raiseX I_Barred fl_bar (hr.mono (by decide)) hcl tk rfl rfl (EA.cons ev_int (EA.cons (plv (pv 4)) EA.nil)))) ss_nil) (ss_one (es_ret (ev_call G_stand_behind (hr.mono (by decide)) rfl hcl tk (EA.cons (plv (pv 2)) (EA.cons (plv (pv 3)) EA.nil)))))))
theorem body_played {f : Addr} (bl : Blt mg) (G_fault_of : CalOk P w K mg base 1 "fault_of" 4 Cm.d_fault_of) (G_moved : CalOk P w K mg base 3 "moved" 4 Cm.d_moved) (xf : XFacts K mg) (I_Barred : InitOk P w K mg base 1 "Barred" 2 flBar) : BodyOk P w K mg base nPlayed "played" s_played f 3 Cm.g_played := fun cdv A outer s H E S M hcl hr => by
  have tk : Takes (cxOf (L2.CX P w) P w K mg base nPlayed "played" (defScope s_played) f cdv A outer s H E) (fun cls d _ H' => E cls d H') := takes_of rfl rfl rfl rfl
  exact (ss_cons (es_set (i := 3) scPlayed.nd rfl (by first | exact Or.inl rfl | exact Or.inr rfl) (ev_lst (EM.cons (ev_tup EM.nil) EM.nil))) (ss_cons (es_for (fg := [4, 5, 6]) (passes_of rfl) rfl (ei_enA rfl bl.enumerate (ev_var (plv (pv 2)))) (eg_tup scPlayed.nd rfl (EG.cons rfl (by first | exact Or.inl rfl | exact Or.inr rfl) (EG.cons rfl (by first | exact Or.inl rfl | exact Or.inr rfl) EG.nil))) (ss_cons (es_set (i := 6) scPlayed.nd rfl (by first | exact Or.inl rfl | exact Or.inr rfl) (ev_call G_fault_of (hr.mono (by decide)) rfl hcl tk (EA.cons (plv (pv 0)) (EA.cons (plv (pv 1)) (EA.cons (ev_ix (ix_any (hu_of hr)) opIxA_S (plv (pv 3)) (ev_un un_neg opNeg_S ev_int) (fun _ _ => rfl)) (EA.cons (plv (pv 5)) EA.nil)))))) (ss_cons (es_if (et_cmp op_notN opNoN_S (nomark _) (plv (pv 6)) ev_non) (ss_one (es_raiseX I_Barred fl_bar (hr.mono (by decide)) hcl tk rfl rfl (EA.cons (plv (pv 4)) (EA.cons (plv (pv 6)) EA.nil)))) ss_nil) (ss_one (es_me1 moApp_S (ps_expr (pe_bm PySem.F.plainAttrs_list PySem.F.slot_list_append PySem.F.type_list_append mt_append (plv (pv 3)) (pa_cons (ev_call G_moved (hr.mono (by decide)) rfl hcl tk (EA.cons (plv (pv 0)) (EA.cons (plv (pv 1)) (EA.cons (ev_ix (ix_any (hu_of hr)) opIxA_S (plv (pv 3)) (ev_un un_neg opNeg_S ev_int) (fun _ _ => rfl)) (EA.cons (plv (pv 5)) EA.nil))))) pa_nil)))))))) (ss_one (es_ret (ev_move (plv (pv 3)))))))
theorem body_most_of {f : Addr} (bl : Blt mg) (G_played : CalOk P w K mg base 4 "played" 3 Cm.d_played) : BodyOk P w K mg base nMostOf "most_of" s_most_of f 4 Cm.g_most_of := fun cdv A outer s H E S M hcl hr => by
  have tk : Takes (cxOf (L2.CX P w) P w K mg base nMostOf "most_of" (defScope s_most_of) f cdv A outer s H E) (fun cls d _ H' => E cls d H') := takes_of rfl rfl rfl rfl
  exact (ss_one (es_ret (ev_bt (cr_max rfl) opMaxL_S rfl bl.max boot_max (EA.cons (ev_lcN (own := [("stand", 2)]) rfl scMostOf.nd (ei_seq (ev_call G_played (hr.mono (by decide)) rfl hcl tk (EA.cons (plv (pv 0)) (EA.cons (ev_bt call_lenA opLen_S rfl bl.len boot_len (EA.cons (plv (pv 0)) EA.nil)) (EA.cons (plv (pv 1)) EA.nil))))) (blkOk_by (by first | (show blkC nMostOf (defScope s_most_of) _ _ = true; decide +kernel) | rfl)) (by decide) (fun _ _ _ _ _ => pg_name (i := 2) scMostOf.nd rfl (by first | exact Or.inl rfl | exact Or.inr rfl)) (fun _ _ _ _ _ => pts_nil) yes_imp (fun _ _ _ _ _ => (ev_bt call_lenA opLen_S rfl bl.len boot_len (EA.cons (plv (pv 2)) EA.nil)))) EA.nil))))
theorem body_rooms_behind {f : Addr} (bl : Blt mg) (G_most_of : CalOk P w K mg base 5 "most_of" 2 Cm.d_most_of) (G_plain_plan : CalOk P w K mg base 2 "plain_plan" 2 Cm.d_plain_plan) : BodyOk P w K mg base nRoomsBehind "rooms_behind" s_rooms_behind f 5 Cm.g_rooms_behind := fun cdv A outer s H E S M hcl hr => by
  have tk : Takes (cxOf (L2.CX P w) P w K mg base nRoomsBehind "rooms_behind" (defScope s_rooms_behind) f cdv A outer s H E) (fun cls d _ H' => E cls d H') := takes_of rfl rfl rfl rfl
  exact (ss_cons (es_if (et_cmp (op_eqA hr.units) opEq_S (nomark _) (ev_bt call_lenA opLenZ_S rfl bl.len boot_len (EA.cons (plv (pv 2)) EA.nil)) ev_int) (ss_one (es_ret (ev_call G_most_of (hr.mono (by decide)) rfl hcl tk (EA.cons (plv (pv 1)) (EA.cons (plv (pv 3)) EA.nil))))) ss_nil) (ss_one (es_ret (ev_bin op_sub opSub_S (ev_bin op_addA opAdd_S (ev_bt (cr_max rfl) opMaxL_S rfl bl.max boot_max (EA.cons (ev_lcT (own := [("start", 4), ("work", 5)]) rfl scRoomsBehind.nd (ei_seqZ (ev_var (plv (pv 2)))) (blkOk_by (by first | (show blkC nRoomsBehind (defScope s_rooms_behind) _ _ = true; decide +kernel) | rfl)) (by decide) (fun _ _ _ _ _ => pg_tup rfl (EG.run scRoomsBehind.nd (EG.cons rfl (by first | exact Or.inl rfl | exact Or.inr rfl) (EG.cons rfl (by first | exact Or.inl rfl | exact Or.inr rfl) EG.nil)))) (fun _ _ _ _ _ => pts_nil) yes_imp (fun _ _ _ _ _ => (ev_call G_most_of (hr.mono (by decide)) rfl hcl takes0 (EA.cons (plv (pv 0)) (EA.cons (ev_call G_plain_plan (hr.mono (by decide)) rfl hcl takes0 (EA.cons (plv (pv 0)) (EA.cons (ev_tup (EM.cons (ev_var (plv (pv 5))) EM.nil)) EA.nil))) EA.nil))))) EA.nil)) (ev_call G_most_of (hr.mono (by decide)) rfl hcl tk (EA.cons (plv (pv 1)) (EA.cons (plv (pv 3)) EA.nil)))) ev_int))))
theorem body_does {f : Addr} (bl : Blt mg) (G_played : CalOk P w K mg base 4 "played" 3 Cm.d_played) (xf : XFacts K mg) : BodyOk P w K mg base nDoes "does" s_does f 4 Cm.g_does := fun cdv A outer s H E S M hcl hr => by
  have tk : Takes (cxOf (L2.CX P w) P w K mg base nDoes "does" (defScope s_does) f cdv A outer s H E) (fun cls d _ H' => E cls d H') := takes_of rfl rfl rfl rfl
  exact (ss_cons (es_set (i := 4) scDoes.nd rfl (by first | exact Or.inl rfl | exact Or.inr rfl) ev_non) (ss_cons (es_try xf.ext_Barred hcl rfl rfl ⟨rfl, by decide, .inl xf.g_Barred⟩ tk (fun W pn xe tkT pO => (ss_one (es_set (i := 4) scDoes.nd rfl (by first | exact Or.inl rfl | exact Or.inr rfl) (ev_ixT (ev_call G_played (hr.mono (by decide)) rfl hcl tkT (EA.cons (plv (pv 0)) (EA.cons (plv (pv 1)) (EA.cons (plv (pv 2)) EA.nil)))) (ev_un un_neg opNeg_S ev_int) (fun _ _ => rfl))))) (fun a oe pn => (ss_one (es_set (i := 4) scDoes.nd rfl (by first | exact Or.inl rfl | exact Or.inr rfl) ev_non)))) (ss_one (es_ret (ev_and (ev_cmp op_notN opNoN_S (nomark _) (plv (pv 4)) ev_non) (ev_one (ev_bt (cr_all rfl) opAll_S rfl bl.all boot_all (EA.cons (ev_lcN (own := [("work", 5)]) rfl scDoes.nd (ei_seq (ev_var (plv (pv 3)))) (blkOk_by (by first | (show blkC nDoes (defScope s_does) _ _ = true; decide +kernel) | rfl)) (by decide) (fun _ _ _ _ _ => pg_name (i := 5) scDoes.nd rfl (by first | exact Or.inl rfl | exact Or.inr rfl)) (fun _ _ _ _ _ => pts_nil) yes_imp (fun _ _ _ _ _ => (ev_cmp (op_inA (hu_of hr)) opIn_S rfl (plv (pv 5)) (plv (pv 4))))) EA.nil))))))))
theorem body_law_plan_right {f : Addr} (bl : Blt mg) (G_plain_plan : CalOk P w K mg base 2 "plain_plan" 2 Cm.d_plain_plan) (G_put_behind : CalOk P w K mg base 2 "put_behind" 3 Cm.d_put_behind) (G_number_behind : CalOk P w K mg base 2 "number_behind" 4 Cm.d_number_behind) (G_plan_behind : CalOk P w K mg base 3 "plan_behind" 4 Cm.d_plan_behind) (G_rooms_behind : CalOk P w K mg base 6 "rooms_behind" 4 Cm.d_rooms_behind) (G_does : CalOk P w K mg base 5 "does" 4 Cm.d_does) (G_most_of : CalOk P w K mg base 5 "most_of" 2 Cm.d_most_of) (G_played : CalOk P w K mg base 4 "played" 3 Cm.d_played) : BodyOk P w K mg base nLawPlanRight "_law_plan_right" s_law_plan_right f 6 Cm.g_law_plan_right := fun cdv A outer s H E S M hcl hr => by
  have tk : Takes (cxOf (L2.CX P w) P w K mg base nLawPlanRight "_law_plan_right" (defScope s_law_plan_right) f cdv A outer s H E) (fun cls d _ H' => E cls d H') := takes_of rfl rfl rfl rfl
  exact (ss_cons (es_set (i := 4) scLawPlanRight.nd rfl (by first | exact Or.inl rfl | exact Or.inr rfl) (ev_call G_plain_plan (hr.mono (by decide)) rfl hcl tk (EA.cons (plv (pv 1)) (EA.cons (ev_tup (EM.cons (ev_var (plv (pv 3))) EM.nil)) EA.nil)))) (ss_cons (es_par (i := 5) (j := 6) scLawPlanRight.nd (ev_call G_put_behind (hr.mono (by decide)) rfl hcl tk (EA.cons (plv (pv 0)) (EA.cons (plv (pv 1)) (EA.cons (plv (pv 2)) EA.nil)))) (ev_call G_number_behind (hr.mono (by decide)) rfl hcl tk (EA.cons (plv (pv 0)) (EA.cons (plv (pv 1)) (EA.cons (plv (pv 2)) (EA.cons (plv (pv 3)) EA.nil)))))) (ss_cons (es_set (i := 7) scLawPlanRight.nd rfl (by first | exact Or.inl rfl | exact Or.inr rfl) (ev_call G_plan_behind (hr.mono (by decide)) rfl hcl tk (EA.cons (plv (pv 0)) (EA.cons (plv (pv 1)) (EA.cons (plv (pv 2)) (EA.cons (plv (pv 4)) EA.nil)))))) (ss_cons (es_set (i := 8) scLawPlanRight.nd rfl (by first | exact Or.inl rfl | exact Or.inr rfl) (ev_call G_rooms_behind (hr.mono (by decide)) rfl hcl tk (EA.cons (plv (pv 0)) (EA.cons (plv (pv 1)) (EA.cons (plv (pv 2)) (EA.cons (plv (pv 4)) EA.nil)))))) (ss_cons (es_if (et_w (ew_or (et_cmp op_isnot_bl opIsNB_S (nomark _) (ev_call G_does (hr.mono (by decide)) rfl hcl tk (EA.cons (plv (pv 5)) (EA.cons (plv (pv 8)) (EA.cons (plv (pv 7)) (EA.cons (ev_tup (EM.cons (ev_var (plv (pv 6))) EM.nil)) EA.nil))))) ev_bl) (ew_one_or (et_cmp op_gt opGt_S (nomark _) (ev_call G_most_of (hr.mono (by decide)) rfl hcl tk (EA.cons (plv (pv 5)) (EA.cons (plv (pv 7)) EA.nil))) (plv (pv 8)))))) (ss_one (es_ret ev_bl)) ss_nil) (ss_cons (es_if (et_cmp (op_neA hr.units) opNe_S (nomark _) (ev_ixT (ev_call G_played (hr.mono (by decide)) rfl hcl tk (EA.cons (plv (pv 5)) (EA.cons (plv (pv 8)) (EA.cons (plv (pv 7)) EA.nil)))) (ev_un un_neg opNeg_S ev_int) (fun _ _ => rfl)) (ev_tup (EM.cons (ev_var (plv (pv 6))) EM.nil))) (ss_one (es_ret ev_bl)) ss_nil) (ss_cons (es_setLcT (own := [("_law_word", 10), ("_law_more", 11)]) rfl scLawPlanRight.nd rfl rfl (sw_true rfl rfl rfl (by decide +kernel)) (ei_seq (ev_var (plv (pv 4)))) (blkOk_by (by first | (show blkC nLawPlanRight (defScope s_law_plan_right) _ _ = true; decide +kernel) | rfl)) (by decide) (fun _ _ _ _ _ => pg_tup rfl (EG.run scLawPlanRight.nd (EG.cons rfl (by first | exact Or.inl rfl | exact Or.inr rfl) (EG.cons rfl (by first | exact Or.inl rfl | exact Or.inr rfl) EG.nil)))) (fun _ _ _ _ _ => pts_nil) yes_imp (fun _ _ _ _ _ => (ev_tup (EM.cons (ev_var (plv (pv 10))) (EM.cons (ev_call G_number_behind (hr.mono (by decide)) rfl hcl takes0 (EA.cons (plv (pv 0)) (EA.cons (plv (pv 1)) (EA.cons ev_tupZ0 (EA.cons (plv (pv 11)) EA.nil))))) EM.nil))))) (ss_one (es_ret (ev_cmp (op_eqA hr.units) opEq_S (nomark _) (ev_call G_plan_behind (hr.mono (by decide)) rfl hcl tk (EA.cons (plv (pv 0)) (EA.cons (plv (pv 1)) (EA.cons ev_tupZ0 (EA.cons (plv (pv 4)) EA.nil))))) (plv (pv 9))))))))))))
theorem body_law {f : Addr} {cdv : Value} {A : Around} {outer : List Env} {s : Shared} {H : Hp} {E : XK} (H0 : Hp) (rs : Option (Addr × Addr)) (M : List Addr) (tk : Takes (cxOf (L2.CX P w) P w K mg base nLaw "law" (defScope s_law) f cdv A outer s H E) (fun cls d _ H' => E cls d H')) (hr : Room 7 (A.deeper (envOfC "law" (defScope s_law) s.heap.objs.size f cdv))) (bl : Blt mg) (G__law_net : CalOk P w K mg base 3 "_law_net" 2 Cm.d_law_net) (G__law_take : CalOk P w K mg base 1 "_law_take" 2 takeD) (G__law_ins : CalOk P w K mg base 2 "_law_ins" 3 Cm.d_law_ins) (G_put_behind : CalOk P w K mg base 2 "put_behind" 3 Cm.d_put_behind) (G__law_put_right : CalOk P w K mg base 4 "_law_put_right" 3 Cm.d_law_put_right) (G__law_plan_right : CalOk P w K mg base 7 "_law_plan_right" 4 Cm.d_law_plan_right) : PSs (cxOf (L2.CX P w) P w K mg base nLaw "law" (defScope s_law) f cdv A outer s H E) (defBody s_law).tail (cS { H0 := H0, S := ⟨rs, clsAt K⟩, M := M, W := fun cls d _ H' => E cls d H' } g_law) := by
  have hcl : clsAt K = clsAt K := rfl
  exact (ss_cons (es_asT (ev_lcN (own := [("_law_turn", 5)]) rfl scLaw.nd (ei_range1 rfl bl.range ev_int) (blkOk_by (by first | (show blkC nLaw (defScope s_law) _ _ = true; decide +kernel) | rfl)) (by decide) (fun _ _ _ _ _ => pg_name (i := 5) scLaw.nd rfl (by first | exact Or.inl rfl | exact Or.inr rfl)) (fun _ _ _ _ _ => pts_nil) yes_imp (fun _ _ _ _ _ => (ev_call G__law_net (hr.mono (by decide)) rfl hcl takes0 (EA.cons (plv (pv 1)) (EA.cons (ev_bin op_addA opAdd_S ev_int (ev_call G__law_take (hr.mono (by decide)) rfl hcl takes0 (EA.cons (plv (pv 1)) (EA.cons ev_int EA.nil)))) EA.nil))))) (eg_lst scLaw.nd rfl (EG.cons rfl (by first | exact Or.inl rfl | exact Or.inr rfl) (EG.cons rfl (by first | exact Or.inl rfl | exact Or.inr rfl) (EG.cons rfl (by first | exact Or.inl rfl | exact Or.inr rfl) EG.nil))))) (ss_cons (es_set (i := 6) scLaw.nd rfl (by first | exact Or.inl rfl | exact Or.inr rfl) (ev_call G__law_ins (hr.mono (by decide)) rfl hcl tk (EA.cons (plv (pv 1)) (EA.cons (plv (pv 2)) (EA.cons (plv (pv 3)) EA.nil))))) (ss_cons (es_set (i := 7) scLaw.nd rfl (by first | exact Or.inl rfl | exact Or.inr rfl) (ev_call G_put_behind (hr.mono (by decide)) rfl hcl tk (EA.cons (plv (pv 2)) (EA.cons (plv (pv 3)) (EA.cons (plv (pv 6)) EA.nil))))) (ss_cons (es_set (i := 8) scLaw.nd rfl (by first | exact Or.inl rfl | exact Or.inr rfl) (ev_call G__law_ins (hr.mono (by decide)) rfl hcl tk (EA.cons (plv (pv 1)) (EA.cons (plv (pv 7)) (EA.cons (plv (pv 4)) EA.nil))))) (ss_cons (es_if (et_w (ew_or (et_not (et_val (ev_call G__law_put_right (hr.mono (by decide)) rfl hcl tk (EA.cons (plv (pv 2)) (EA.cons (plv (pv 3)) (EA.cons (plv (pv 6)) EA.nil)))))) (ew_one_or (et_not (et_val (ev_call G__law_put_right (hr.mono (by decide)) rfl hcl tk (EA.cons (plv (pv 7)) (EA.cons (plv (pv 4)) (EA.cons (plv (pv 8)) EA.nil))))))))) (ss_one (es_ret ev_bl)) ss_nil) (ss_cons (es_for (fg := [5]) (passes_of rfl) rfl (ei_range1 rfl bl.range ev_int) (eg_name (i := 5) scLaw.nd rfl (by first | exact Or.inl rfl | exact Or.inr rfl)) (ss_cons (es_if (et_not (et_val (ev_call G__law_plan_right (hr.mono (by decide)) rfl hcl tk (EA.cons (plv (pv 2)) (EA.cons (plv (pv 3)) (EA.cons (plv (pv 6)) (EA.cons (ev_call G__law_take (hr.mono (by decide)) rfl hcl tk (EA.cons (plv (pv 1)) (EA.cons (ev_bt call_lenA opLen_S rfl bl.len boot_len (EA.cons (plv (pv 3)) EA.nil)) EA.nil))) EA.nil))))))) (ss_one (es_ret ev_bl)) ss_nil) (ss_one (es_if (et_not (et_val (ev_call G__law_plan_right (hr.mono (by decide)) rfl hcl tk (EA.cons (plv (pv 7)) (EA.cons (plv (pv 4)) (EA.cons (plv (pv 8)) (EA.cons (ev_call G__law_take (hr.mono (by decide)) rfl hcl tk (EA.cons (plv (pv 1)) (EA.cons (ev_bt call_lenA opLen_S rfl bl.len boot_len (EA.cons (plv (pv 4)) EA.nil)) EA.nil))) EA.nil))))))) (ss_one (es_ret ev_bl)) ss_nil)))) (ss_one (es_ret ev_bl))))))))
theorem ok_law {f fB : Addr} {fd fdB : FuncData} (F : Fun K "law" "law" s_law f fd) (FB : Fun K "_law_begin" "_law_begin" s_law_begin fB fdB) (mB : mg "_law_begin" = some (.ref fB)) (bB : Binds K fdB ["_law_script"] []) (bl : Blt mg)  (G__law_net : CalOk P w K mg base 3 "_law_net" 2 Cm.d_law_net) (G__law_take : CalOk P w K mg base 1 "_law_take" 2 takeD) (G__law_ins : CalOk P w K mg base 2 "_law_ins" 3 Cm.d_law_ins) (G_put_behind : CalOk P w K mg base 2 "put_behind" 3 Cm.d_put_behind) (G__law_put_right : CalOk P w K mg base 4 "_law_put_right" 3 Cm.d_law_put_right) (G__law_plan_right : CalOk P w K mg base 7 "_law_plan_right" 4 Cm.d_law_plan_right) : FnOk P w K mg base (L2.CX P w) (7 + 1) f fd ["_law_script"] (spLaw K) := by
  have GB := ok_law_begin (P := P) (w := w) (base := base) FB bl
  refine F.okX scLaw (fun vs H Q E h => ?_) (fun cdv A outer s H vs Q E hr h => ?_)
  · obtain ⟨a, ns, rfl, _⟩ := h
    rfl
  · obtain ⟨a, ns, rfl, hS, h63, hl, k⟩ := h
    have tk0 : Takes (cxOf (L2.CX P w) P w K mg base nLaw "law" (defScope s_law) f cdv A outer s H E) (fun cls d _ H' => E cls d H') := takes_of rfl rfl rfl rfl
    refine ⟨_, pss_cons (ps_set (i := 1) scLaw.nd rfl (by first | exact Or.inl rfl | exact Or.inr rfl) (pe_callS GB (hr.mono (by decide)) rfl mB FB.kp bB (fun σ => passAt tk0 σ) (pa_cons (pv 0) pa_nil)))
      (law_rest (cl := clsAt K) (W := fun cls d _ H' => E cls d H') fun H0 rs M => body_law H0 rs M tk0 hr bl G__law_net G__law_take G__law_ins G_put_behind G__law_put_right G__law_plan_right), ?_⟩
    refine ⟨_, rfl, a, ns, rfl, hS, h63, hl, fun x c H' ne h1 h2 hl' => ?_⟩
    refine ⟨H', some (x, c), [x, c], [], _, [], law_start (N := nLaw) (k := 7) rfl ne h1 h2 hl', ?_⟩
    obtain ⟨ρ, e⟩ := h_law ns h63
    rw [e]
    intro v σ H2 F2 r2
    cases bl_of r2
    exact k H2
end
theorem all_mk {l : PySem.W.OpenLaw} {w : World} {K : PySem.W.Frag} {h : Heap} {mg : Str → Option Value} {fa : Addr} (X : K.In h) (G : h.Ns mainGlobals mg) (hfa : mg "law" = some (.ref fa))
    {od0 an0 : Option Addr} {sl0 : Array (Option Value)} {oc0 kV0 dc0 pm0 cd0 ct0 : Value} {f0 : Addr} (a0 : PySem.W.nsIn K mainGlobals "_law_take" = some (some (.ref f0))) (l0 : K.lookup f0 = some ⟨oc0, od0, .func (PySem.W.fnOf "_law_take" "_law_take" (defArgs s_law_take) (defBody s_law_take) (defScope s_law_take) .none kV0 dc0 pm0 an0 cd0 ct0), sl0⟩) (c0 : PySem.W.codeIn K cd0 "_law_take" = true) (k0 : PySem.W.keepIn K (.ref f0) = true)
    {od1 an1 : Option Addr} {sl1 : Array (Option Value)} {oc1 kV1 dc1 pm1 cd1 ct1 : Value} {f1 : Addr} (a1 : PySem.W.nsIn K mainGlobals "_law_begin" = some (some (.ref f1))) (l1 : K.lookup f1 = some ⟨oc1, od1, .func (PySem.W.fnOf "_law_begin" "_law_begin" (defArgs s_law_begin) (defBody s_law_begin) (defScope s_law_begin) .none kV1 dc1 pm1 an1 cd1 ct1), sl1⟩) (c1 : PySem.W.codeIn K cd1 "_law_begin" = true) (k1 : PySem.W.keepIn K (.ref f1) = true)
    {od2 an2 : Option Addr} {sl2 : Array (Option Value)} {oc2 kV2 dc2 pm2 cd2 ct2 : Value} {f2 : Addr} (a2 : PySem.W.nsIn K mainGlobals "_law_tree_net" = some (some (.ref f2))) (l2 : K.lookup f2 = some ⟨oc2, od2, .func (PySem.W.fnOf "_law_tree_net" "_law_tree_net" (defArgs s_law_tree_net) (defBody s_law_tree_net) (defScope s_law_tree_net) .none kV2 dc2 pm2 an2 cd2 ct2), sl2⟩) (c2 : PySem.W.codeIn K cd2 "_law_tree_net" = true) (k2 : PySem.W.keepIn K (.ref f2) = true)
    {od3 an3 : Option Addr} {sl3 : Array (Option Value)} {oc3 kV3 dc3 pm3 cd3 ct3 : Value} {f3 : Addr} (a3 : PySem.W.nsIn K mainGlobals "_law_some_needs" = some (some (.ref f3))) (l3 : K.lookup f3 = some ⟨oc3, od3, .func (PySem.W.fnOf "_law_some_needs" "_law_some_needs" (defArgs s_law_some_needs) (defBody s_law_some_needs) (defScope s_law_some_needs) .none kV3 dc3 pm3 an3 cd3 ct3), sl3⟩) (c3 : PySem.W.codeIn K cd3 "_law_some_needs" = true) (k3 : PySem.W.keepIn K (.ref f3) = true)
    {od4 an4 : Option Addr} {sl4 : Array (Option Value)} {oc4 kV4 dc4 pm4 cd4 ct4 : Value} {f4 : Addr} (a4 : PySem.W.nsIn K mainGlobals "_law_net" = some (some (.ref f4))) (l4 : K.lookup f4 = some ⟨oc4, od4, .func (PySem.W.fnOf "_law_net" "_law_net" (defArgs s_law_net) (defBody s_law_net) (defScope s_law_net) .none kV4 dc4 pm4 an4 cd4 ct4), sl4⟩) (c4 : PySem.W.codeIn K cd4 "_law_net" = true) (k4 : PySem.W.keepIn K (.ref f4) = true)
    {od5 an5 : Option Addr} {sl5 : Array (Option Value)} {oc5 kV5 dc5 pm5 cd5 ct5 : Value} {f5 : Addr} (a5 : PySem.W.nsIn K mainGlobals "_law_ins" = some (some (.ref f5))) (l5 : K.lookup f5 = some ⟨oc5, od5, .func (PySem.W.fnOf "_law_ins" "_law_ins" (defArgs s_law_ins) (defBody s_law_ins) (defScope s_law_ins) .none kV5 dc5 pm5 an5 cd5 ct5), sl5⟩) (c5 : PySem.W.codeIn K cd5 "_law_ins" = true) (k5 : PySem.W.keepIn K (.ref f5) = true)
    {od6 an6 : Option Addr} {sl6 : Array (Option Value)} {oc6 kV6 dc6 pm6 cd6 ct6 : Value} {f6 : Addr} (a6 : PySem.W.nsIn K mainGlobals "numbers_behind" = some (some (.ref f6))) (l6 : K.lookup f6 = some ⟨oc6, od6, .func (PySem.W.fnOf "numbers_behind" "numbers_behind" (defArgs s_numbers_behind) (defBody s_numbers_behind) (defScope s_numbers_behind) .none kV6 dc6 pm6 an6 cd6 ct6), sl6⟩) (c6 : PySem.W.codeIn K cd6 "numbers_behind" = true) (k6 : PySem.W.keepIn K (.ref f6) = true)
    {od7 an7 : Option Addr} {sl7 : Array (Option Value)} {oc7 kV7 dc7 pm7 cd7 ct7 : Value} {f7 : Addr} (a7 : PySem.W.nsIn K mainGlobals "put_behind" = some (some (.ref f7))) (l7 : K.lookup f7 = some ⟨oc7, od7, .func (PySem.W.fnOf "put_behind" "put_behind" (defArgs s_put_behind) (defBody s_put_behind) (defScope s_put_behind) .none kV7 dc7 pm7 an7 cd7 ct7), sl7⟩) (c7 : PySem.W.codeIn K cd7 "put_behind" = true) (k7 : PySem.W.keepIn K (.ref f7) = true)
    {od8 an8 : Option Addr} {sl8 : Array (Option Value)} {oc8 kV8 dc8 pm8 cd8 ct8 : Value} {f8 : Addr} (a8 : PySem.W.nsIn K mainGlobals "is_work_below" = some (some (.ref f8))) (l8 : K.lookup f8 = some ⟨oc8, od8, .func (PySem.W.fnOf "is_work_below" "is_work_below" (defArgs s_is_work_below) (defBody s_is_work_below) (defScope s_is_work_below) .none kV8 dc8 pm8 an8 cd8 ct8), sl8⟩) (c8 : PySem.W.codeIn K cd8 "is_work_below" = true) (k8 : PySem.W.keepIn K (.ref f8) = true)
    {od9 an9 : Option Addr} {sl9 : Array (Option Value)} {oc9 kV9 dc9 pm9 cd9 ct9 : Value} {f9 : Addr} (a9 : PySem.W.nsIn K mainGlobals "are_needs" = some (some (.ref f9))) (l9 : K.lookup f9 = some ⟨oc9, od9, .func (PySem.W.fnOf "are_needs" "are_needs" (defArgs s_are_needs) (defBody s_are_needs) (defScope s_are_needs) .none kV9 dc9 pm9 an9 cd9 ct9), sl9⟩) (c9 : PySem.W.codeIn K cd9 "are_needs" = true) (k9 : PySem.W.keepIn K (.ref f9) = true)
    {od10 an10 : Option Addr} {sl10 : Array (Option Value)} {oc10 kV10 dc10 pm10 cd10 ct10 : Value} {f10 : Addr} (a10 : PySem.W.nsIn K mainGlobals "is_net" = some (some (.ref f10))) (l10 : K.lookup f10 = some ⟨oc10, od10, .func (PySem.W.fnOf "is_net" "is_net" (defArgs s_is_net) (defBody s_is_net) (defScope s_is_net) .none kV10 dc10 pm10 an10 cd10 ct10), sl10⟩) (c10 : PySem.W.codeIn K cd10 "is_net" = true) (k10 : PySem.W.keepIn K (.ref f10) = true)
    {od11 an11 : Option Addr} {sl11 : Array (Option Value)} {oc11 kV11 dc11 pm11 cd11 ct11 : Value} {f11 : Addr} (a11 : PySem.W.nsIn K mainGlobals "all_needed" = some (some (.ref f11))) (l11 : K.lookup f11 = some ⟨oc11, od11, .func (PySem.W.fnOf "all_needed" "all_needed" (defArgs s_all_needed) (defBody s_all_needed) (defScope s_all_needed) .none kV11 dc11 pm11 an11 cd11 ct11), sl11⟩) (c11 : PySem.W.codeIn K cd11 "all_needed" = true) (k11 : PySem.W.keepIn K (.ref f11) = true)
    {od12 an12 : Option Addr} {sl12 : Array (Option Value)} {oc12 kV12 dc12 pm12 cd12 ct12 : Value} {f12 : Addr} (a12 : PySem.W.nsIn K mainGlobals "number_behind" = some (some (.ref f12))) (l12 : K.lookup f12 = some ⟨oc12, od12, .func (PySem.W.fnOf "number_behind" "number_behind" (defArgs s_number_behind) (defBody s_number_behind) (defScope s_number_behind) .none kV12 dc12 pm12 an12 cd12 ct12), sl12⟩) (c12 : PySem.W.codeIn K cd12 "number_behind" = true) (k12 : PySem.W.keepIn K (.ref f12) = true)
    {od13 an13 : Option Addr} {sl13 : Array (Option Value)} {oc13 kV13 dc13 pm13 cd13 ct13 : Value} {f13 : Addr} (a13 : PySem.W.nsIn K mainGlobals "_law_put_right" = some (some (.ref f13))) (l13 : K.lookup f13 = some ⟨oc13, od13, .func (PySem.W.fnOf "_law_put_right" "_law_put_right" (defArgs s_law_put_right) (defBody s_law_put_right) (defScope s_law_put_right) .none kV13 dc13 pm13 an13 cd13 ct13), sl13⟩) (c13 : PySem.W.codeIn K cd13 "_law_put_right" = true) (k13 : PySem.W.keepIn K (.ref f13) = true)
    {od14 an14 : Option Addr} {sl14 : Array (Option Value)} {oc14 kV14 dc14 pm14 cd14 ct14 : Value} {f14 : Addr} (a14 : PySem.W.nsIn K mainGlobals "plan_in" = some (some (.ref f14))) (l14 : K.lookup f14 = some ⟨oc14, od14, .func (PySem.W.fnOf "plan_in" "plan_in" (defArgs s_plan_in) (defBody s_plan_in) (defScope s_plan_in) .none kV14 dc14 pm14 an14 cd14 ct14), sl14⟩) (c14 : PySem.W.codeIn K cd14 "plan_in" = true) (k14 : PySem.W.keepIn K (.ref f14) = true)
    {od15 an15 : Option Addr} {sl15 : Array (Option Value)} {oc15 kV15 dc15 pm15 cd15 ct15 : Value} {f15 : Addr} (a15 : PySem.W.nsIn K mainGlobals "plain_plan" = some (some (.ref f15))) (l15 : K.lookup f15 = some ⟨oc15, od15, .func (PySem.W.fnOf "plain_plan" "plain_plan" (defArgs s_plain_plan) (defBody s_plain_plan) (defScope s_plain_plan) .none kV15 dc15 pm15 an15 cd15 ct15), sl15⟩) (c15 : PySem.W.codeIn K cd15 "plain_plan" = true) (k15 : PySem.W.keepIn K (.ref f15) = true)
    {od16 an16 : Option Addr} {sl16 : Array (Option Value)} {oc16 kV16 dc16 pm16 cd16 ct16 : Value} {f16 : Addr} (a16 : PySem.W.nsIn K mainGlobals "plan_behind" = some (some (.ref f16))) (l16 : K.lookup f16 = some ⟨oc16, od16, .func (PySem.W.fnOf "plan_behind" "plan_behind" (defArgs s_plan_behind) (defBody s_plan_behind) (defScope s_plan_behind) .none kV16 dc16 pm16 an16 cd16 ct16), sl16⟩) (c16 : PySem.W.codeIn K cd16 "plan_behind" = true) (k16 : PySem.W.keepIn K (.ref f16) = true)
    {od17 an17 : Option Addr} {sl17 : Array (Option Value)} {oc17 kV17 dc17 pm17 cd17 ct17 : Value} {f17 : Addr} (a17 : PySem.W.nsIn K mainGlobals "fault_of" = some (some (.ref f17))) (l17 : K.lookup f17 = some ⟨oc17, od17, .func (PySem.W.fnOf "fault_of" "fault_of" (defArgs s_fault_of) (defBody s_fault_of) (defScope s_fault_of) .none kV17 dc17 pm17 an17 cd17 ct17), sl17⟩) (c17 : PySem.W.codeIn K cd17 "fault_of" = true) (k17 : PySem.W.keepIn K (.ref f17) = true)
    {od18 an18 : Option Addr} {sl18 : Array (Option Value)} {oc18 kV18 dc18 pm18 cd18 ct18 : Value} {f18 : Addr} (a18 : PySem.W.nsIn K mainGlobals "stand_behind" = some (some (.ref f18))) (l18 : K.lookup f18 = some ⟨oc18, od18, .func (PySem.W.fnOf "stand_behind" "stand_behind" (defArgs s_stand_behind) (defBody s_stand_behind) (defScope s_stand_behind) .none kV18 dc18 pm18 an18 cd18 ct18), sl18⟩) (c18 : PySem.W.codeIn K cd18 "stand_behind" = true) (k18 : PySem.W.keepIn K (.ref f18) = true)
    {od19 an19 : Option Addr} {sl19 : Array (Option Value)} {oc19 kV19 dc19 pm19 cd19 ct19 : Value} {f19 : Addr} (a19 : PySem.W.nsIn K mainGlobals "moved" = some (some (.ref f19))) (l19 : K.lookup f19 = some ⟨oc19, od19, .func (PySem.W.fnOf "moved" "moved" (defArgs s_moved) (defBody s_moved) (defScope s_moved) .none kV19 dc19 pm19 an19 cd19 ct19), sl19⟩) (c19 : PySem.W.codeIn K cd19 "moved" = true) (k19 : PySem.W.keepIn K (.ref f19) = true)
    {od20 an20 : Option Addr} {sl20 : Array (Option Value)} {oc20 kV20 dc20 pm20 cd20 ct20 : Value} {f20 : Addr} (a20 : PySem.W.nsIn K mainGlobals "played" = some (some (.ref f20))) (l20 : K.lookup f20 = some ⟨oc20, od20, .func (PySem.W.fnOf "played" "played" (defArgs s_played) (defBody s_played) (defScope s_played) .none kV20 dc20 pm20 an20 cd20 ct20), sl20⟩) (c20 : PySem.W.codeIn K cd20 "played" = true) (k20 : PySem.W.keepIn K (.ref f20) = true)
    {od21 an21 : Option Addr} {sl21 : Array (Option Value)} {oc21 kV21 dc21 pm21 cd21 ct21 : Value} {f21 : Addr} (a21 : PySem.W.nsIn K mainGlobals "most_of" = some (some (.ref f21))) (l21 : K.lookup f21 = some ⟨oc21, od21, .func (PySem.W.fnOf "most_of" "most_of" (defArgs s_most_of) (defBody s_most_of) (defScope s_most_of) .none kV21 dc21 pm21 an21 cd21 ct21), sl21⟩) (c21 : PySem.W.codeIn K cd21 "most_of" = true) (k21 : PySem.W.keepIn K (.ref f21) = true)
    {od22 an22 : Option Addr} {sl22 : Array (Option Value)} {oc22 kV22 dc22 pm22 cd22 ct22 : Value} {f22 : Addr} (a22 : PySem.W.nsIn K mainGlobals "rooms_behind" = some (some (.ref f22))) (l22 : K.lookup f22 = some ⟨oc22, od22, .func (PySem.W.fnOf "rooms_behind" "rooms_behind" (defArgs s_rooms_behind) (defBody s_rooms_behind) (defScope s_rooms_behind) .none kV22 dc22 pm22 an22 cd22 ct22), sl22⟩) (c22 : PySem.W.codeIn K cd22 "rooms_behind" = true) (k22 : PySem.W.keepIn K (.ref f22) = true)
    {od23 an23 : Option Addr} {sl23 : Array (Option Value)} {oc23 kV23 dc23 pm23 cd23 ct23 : Value} {f23 : Addr} (a23 : PySem.W.nsIn K mainGlobals "does" = some (some (.ref f23))) (l23 : K.lookup f23 = some ⟨oc23, od23, .func (PySem.W.fnOf "does" "does" (defArgs s_does) (defBody s_does) (defScope s_does) .none kV23 dc23 pm23 an23 cd23 ct23), sl23⟩) (c23 : PySem.W.codeIn K cd23 "does" = true) (k23 : PySem.W.keepIn K (.ref f23) = true)
    {od24 an24 : Option Addr} {sl24 : Array (Option Value)} {oc24 kV24 dc24 pm24 cd24 ct24 : Value} {f24 : Addr} (a24 : PySem.W.nsIn K mainGlobals "_law_plan_right" = some (some (.ref f24))) (l24 : K.lookup f24 = some ⟨oc24, od24, .func (PySem.W.fnOf "_law_plan_right" "_law_plan_right" (defArgs s_law_plan_right) (defBody s_law_plan_right) (defScope s_law_plan_right) .none kV24 dc24 pm24 an24 cd24 ct24), sl24⟩) (c24 : PySem.W.codeIn K cd24 "_law_plan_right" = true) (k24 : PySem.W.keepIn K (.ref f24) = true)
    {od25 an25 : Option Addr} {sl25 : Array (Option Value)} {oc25 kV25 dc25 pm25 cd25 ct25 : Value} {f25 : Addr} (a25 : PySem.W.nsIn K mainGlobals "law" = some (some (.ref f25))) (l25 : K.lookup f25 = some ⟨oc25, od25, .func (PySem.W.fnOf "law" "law" (defArgs s_law) (defBody s_law) (defScope s_law) .none kV25 dc25 pm25 an25 cd25 ct25), sl25⟩) (c25 : PySem.W.codeIn K cd25 "law" = true) (k25 : PySem.W.keepIn K (.ref f25) = true)
    (b_len : PySem.W.nsIn K mainGlobals "len" = some none)
    (b_range : PySem.W.nsIn K mainGlobals "range" = some none)
    (b_tuple : PySem.W.nsIn K mainGlobals "tuple" = some none)
    (b_list : PySem.W.nsIn K mainGlobals "list" = some none)
    (b_min : PySem.W.nsIn K mainGlobals "min" = some none)
    (b_max : PySem.W.nsIn K mainGlobals "max" = some none)
    (b_sum : PySem.W.nsIn K mainGlobals "sum" = some none)
    (b_all : PySem.W.nsIn K mainGlobals "all" = some none)
    (b_any : PySem.W.nsIn K mainGlobals "any" = some none)
    (b_int : PySem.W.nsIn K mainGlobals "int" = some none)
    (b_bool : PySem.W.nsIn K mainGlobals "bool" = some none)
    (b_str : PySem.W.nsIn K mainGlobals "str" = some none)
    (b_dict : PySem.W.nsIn K mainGlobals "dict" = some none)
    (b_set : PySem.W.nsIn K mainGlobals "set" = some none)
    (b_sorted : PySem.W.nsIn K mainGlobals "sorted" = some none)
    (b_isinstance : PySem.W.nsIn K mainGlobals "isinstance" = some none)
    (b_enumerate : PySem.W.nsIn K mainGlobals "enumerate" = some none)
    (b_zip : PySem.W.nsIn K mainGlobals "zip" = some none)
    (b_reversed : PySem.W.nsIn K mainGlobals "reversed" = some none)
    (b_divmod : PySem.W.nsIn K mainGlobals "divmod" = some none)
    (b_abs : PySem.W.nsIn K mainGlobals "abs" = some none)
    (b_ValueError : PySem.W.nsIn K mainGlobals "ValueError" = some none)
    {t_DO : Tok} (g_DO : PySem.W.nsIn K mainGlobals "DO" = some (some (.str "do" t_DO)))
    {t_CLEAR : Tok} (g_CLEAR : PySem.W.nsIn K mainGlobals "CLEAR" = some (some (.str "clear" t_CLEAR)))
    {C_RoomError : Addr} (gX_RoomError : PySem.W.nsIn K mainGlobals "RoomError" = some (some (.ref C_RoomError)))
    {C_Barred : Addr} (gX_Barred : PySem.W.nsIn K mainGlobals "Barred" = some (some (.ref C_Barred)))
    (nX_NoMove : PySem.W.nsIn K mainGlobals "NoMove" = some none)
    (nX_NoTree : PySem.W.nsIn K mainGlobals "NoTree" = some none)
    (nX_TooMany : PySem.W.nsIn K mainGlobals "TooMany" = some none)
    (nX_BadRow : PySem.W.nsIn K mainGlobals "BadRow" = some none)
    (nz_RoomError : (C_RoomError == 0) = false)
    (kX_RoomError : PySem.W.keepIn K (.ref C_RoomError) = true)
    (bX_RoomError : PySem.W.subIn K (.ref C_RoomError) (.type "BaseException") = some true)
    (tX_RoomError : PySem.W.typeIn K (.ref C_RoomError) = some (.type "type"))
    (hdX_RoomError : PySem.W.hasDictIn K C_RoomError = true)
    (hgX_RoomError : PySem.W.findIn K (.ref C_RoomError) "__getattribute__" = some (some (.builtin "BaseException.__getattribute__")))
    (hkX_RoomError : PySem.W.findIn K (.ref C_RoomError) "__getattr__" = some none)
    (haX_RoomError : PySem.W.findIn K (.ref C_RoomError) "__class__" = some (some (.builtin "object.__class__")))
    (hmX_RoomError : PySem.W.mroIn K C_RoomError (.type "object") = some true)
    (ssX_RoomError : PySem.W.subIn K (.ref C_RoomError) (.ref C_RoomError) = some true)
    (svX_RoomError : PySem.W.subIn K (.ref C_RoomError) (.type "ValueError") = some true)
    (nz_Barred : (C_Barred == 0) = false)
    (kX_Barred : PySem.W.keepIn K (.ref C_Barred) = true)
    (bX_Barred : PySem.W.subIn K (.ref C_Barred) (.type "BaseException") = some true)
    (tX_Barred : PySem.W.typeIn K (.ref C_Barred) = some (.type "type"))
    (hdX_Barred : PySem.W.hasDictIn K C_Barred = true)
    (hgX_Barred : PySem.W.findIn K (.ref C_Barred) "__getattribute__" = some (some (.builtin "BaseException.__getattribute__")))
    (hkX_Barred : PySem.W.findIn K (.ref C_Barred) "__getattr__" = some none)
    (haX_Barred : PySem.W.findIn K (.ref C_Barred) "__class__" = some (some (.builtin "object.__class__")))
    (hmX_Barred : PySem.W.mroIn K C_Barred (.type "object") = some true)
    (ssX_Barred : PySem.W.subIn K (.ref C_Barred) (.ref C_Barred) = some true)
    (svX_Barred : PySem.W.subIn K (.ref C_Barred) (.type "ValueError") = some true)
    (hnX : PySem.W.specialIn K (.builtin "object.__class__") "__get__" = some (some (.builtin "getset_descriptor.__get__")))
    (htX : PySem.W.takesIn K (.builtin "object.__class__") = some true)
    {iv1_Barred iv2_Barred : Str} {iv3_Barred : Addr} {iv4_Barred iv5_Barred : List Value} {iv6_Barred : List Str} {iv7_Barred : List Value} {iv8_Barred : Bool} {iv9_Barred : Option Bool} {iva_Barred : Option Addr} {ivb_Barred ivc_Barred ivd_Barred ive_Barred ivf_Barred : Option Value} (iO_Barred : K.lookup C_Barred = some (excClassObj iv1_Barred iv2_Barred C_Barred iv3_Barred iv4_Barred iv5_Barred true iv6_Barred iv7_Barred iv8_Barred iv9_Barred iva_Barred ivb_Barred ivc_Barred ivd_Barred ive_Barred ivf_Barred "ValueError.__new__"))
    (iB_Barred : PySem.HandSPX.refsVE iv5_Barred = true)
    (iS_Barred : PySem.W.findIn K (.ref C_Barred) "__setattr__" = some (some (.builtin "object.__setattr__")))
    {fI_Barred : Addr} (iI_Barred : PySem.W.findIn K (.ref C_Barred) "__init__" = some (some (.ref fI_Barred)))
    (iT_Barred : PySem.W.typeIn K (.ref fI_Barred) = some (.type "function"))
    {odI_Barred anI_Barred : Option Addr} {slI_Barred : Array (Option Value)} {ocI_Barred kVI_Barred dcI_Barred pmI_Barred cdI_Barred ctI_Barred : Value} (iL_Barred : K.lookup fI_Barred = some ⟨ocI_Barred, odI_Barred, .func (PySem.W.fnOf "__init__" "Barred.__init__" (defArgs s_Barred_init) (defBody s_Barred_init) (defScope s_Barred_init) .none kVI_Barred dcI_Barred pmI_Barred anI_Barred cdI_Barred ctI_Barred), slI_Barred⟩)
    (iC_Barred : PySem.W.codeIn K cdI_Barred "Barred.__init__" = true)
    (iK_Barred : PySem.W.keepIn K (.ref fI_Barred) = true)
    (iN_Barred_move : PySem.W.findIn K (.ref C_Barred) "move" = some none)
    (iN_Barred_word : PySem.W.findIn K (.ref C_Barred) "word" = some none)
    (rE1 : PySem.W.readsIn K C_RoomError (.type "type") = true)
    (rE2 : PySem.W.specialIn K (.ref C_RoomError) "__getattribute__" = some (some (.builtin "type.__getattribute__")))
    (rE3 : PySem.W.findCls K (.ref C_RoomError) (.type "type") "__init__" = some (.val (.builtin "ValueError.__init__"))) :
    ∃ fd : FuncData, (∀ (s : Shared) (v : Value), BindsTo s fd ⟨[v], []⟩ [("_law_script", v)]) ∧ ∀ base : Heap, K.In base → base.Ns mainGlobals mg → FnOk l.prog w K mg base (L2.CX l.prog w) 8 fa fd ["_law_script"] (Fw.spLaw K) := by
  have e := hfa.symm.trans (PySem.W.mg_of X G a25)
  cases e
  have bl : Blt mg := ⟨PySem.W.mg_none_of X G b_len, PySem.W.mg_none_of X G b_range, PySem.W.mg_none_of X G b_tuple, PySem.W.mg_none_of X G b_list, PySem.W.mg_none_of X G b_min, PySem.W.mg_none_of X G b_max, PySem.W.mg_none_of X G b_sum, PySem.W.mg_none_of X G b_all, PySem.W.mg_none_of X G b_any, PySem.W.mg_none_of X G b_int, PySem.W.mg_none_of X G b_bool, PySem.W.mg_none_of X G b_str, PySem.W.mg_none_of X G b_dict, PySem.W.mg_none_of X G b_set, PySem.W.mg_none_of X G b_sorted, PySem.W.mg_none_of X G b_isinstance, PySem.W.mg_none_of X G b_enumerate, PySem.W.mg_none_of X G b_zip, PySem.W.mg_none_of X G b_reversed, PySem.W.mg_none_of X G b_divmod, PySem.W.mg_none_of X G b_abs, PySem.W.mg_none_of X G b_ValueError⟩
  have c_DO := PySem.W.mg_of X G g_DO
  have c_CLEAR := PySem.W.mg_of X G g_CLEAR
  have F0 := fun_mk (st := s_law_take) l0 c0 k0
  have m0 := PySem.W.mg_of X G a0
  have b0 := F0.binds (ps := ["_law_state", "_law_many"]) fun _ _ _ _ _ _ us hl => match us, hl with | [_, _], _ => rfl
  have F1 := fun_mk (st := s_law_begin) l1 c1 k1
  have m1 := PySem.W.mg_of X G a1
  have b1 := F1.binds (ps := ["_law_script"]) fun _ _ _ _ _ _ us hl => match us, hl with | [_], _ => rfl
  have F2 := fun_mk (st := s_law_tree_net) l2 c2 k2
  have m2 := PySem.W.mg_of X G a2
  have b2 := F2.binds (ps := ["_law_state", "_law_many"]) fun _ _ _ _ _ _ us hl => match us, hl with | [_, _], _ => rfl
  have F3 := fun_mk (st := s_law_some_needs) l3 c3 k3
  have m3 := PySem.W.mg_of X G a3
  have b3 := F3.binds (ps := ["_law_state", "_law_k"]) fun _ _ _ _ _ _ us hl => match us, hl with | [_, _], _ => rfl
  have F4 := fun_mk (st := s_law_net) l4 c4 k4
  have m4 := PySem.W.mg_of X G a4
  have b4 := F4.binds (ps := ["_law_state", "_law_many"]) fun _ _ _ _ _ _ us hl => match us, hl with | [_, _], _ => rfl
  have F5 := fun_mk (st := s_law_ins) l5 c5 k5
  have m5 := PySem.W.mg_of X G a5
  have b5 := F5.binds (ps := ["_law_state", "_law_one", "_law_other"]) fun _ _ _ _ _ _ us hl => match us, hl with | [_, _, _], _ => rfl
  have F6 := fun_mk (st := s_numbers_behind) l6 c6 k6
  have m6 := PySem.W.mg_of X G a6
  have b6 := F6.binds (ps := ["one", "other", "ins"]) fun _ _ _ _ _ _ us hl => match us, hl with | [_, _, _], _ => rfl
  have F7 := fun_mk (st := s_put_behind) l7 c7 k7
  have m7 := PySem.W.mg_of X G a7
  have b7 := F7.binds (ps := ["one", "other", "ins"]) fun _ _ _ _ _ _ us hl => match us, hl with | [_, _, _], _ => rfl
  have F8 := fun_mk (st := s_is_work_below) l8 c8 k8
  have m8 := PySem.W.mg_of X G a8
  have b8 := F8.binds (ps := ["thing", "most"]) fun _ _ _ _ _ _ us hl => match us, hl with | [_, _], _ => rfl
  have F9 := fun_mk (st := s_are_needs) l9 c9 k9
  have m9 := PySem.W.mg_of X G a9
  have b9 := F9.binds (ps := ["thing", "work"]) fun _ _ _ _ _ _ us hl => match us, hl with | [_, _], _ => rfl
  have F10 := fun_mk (st := s_is_net) l10 c10 k10
  have m10 := PySem.W.mg_of X G a10
  have b10 := F10.binds (ps := ["thing"]) fun _ _ _ _ _ _ us hl => match us, hl with | [_], _ => rfl
  have F11 := fun_mk (st := s_all_needed) l11 c11 k11
  have m11 := PySem.W.mg_of X G a11
  have b11 := F11.binds (ps := ["net", "asked"]) fun _ _ _ _ _ _ us hl => match us, hl with | [_, _], _ => rfl
  have F12 := fun_mk (st := s_number_behind) l12 c12 k12
  have m12 := PySem.W.mg_of X G a12
  have b12 := F12.binds (ps := ["one", "other", "ins", "work"]) fun _ _ _ _ _ _ us hl => match us, hl with | [_, _, _, _], _ => rfl
  have F13 := fun_mk (st := s_law_put_right) l13 c13 k13
  have m13 := PySem.W.mg_of X G a13
  have b13 := F13.binds (ps := ["_law_one", "_law_other", "_law_ins_here"]) fun _ _ _ _ _ _ us hl => match us, hl with | [_, _, _], _ => rfl
  have F14 := fun_mk (st := s_plan_in) l14 c14 k14
  have m14 := PySem.W.mg_of X G a14
  have b14 := F14.binds (ps := ["net", "asked", "order"]) fun _ _ _ _ _ _ us hl => match us, hl with | [_, _, _], _ => rfl
  have F15 := fun_mk (st := s_plain_plan) l15 c15 k15
  have m15 := PySem.W.mg_of X G a15
  have b15 := F15.binds (ps := ["net", "asked"]) fun _ _ _ _ _ _ us hl => match us, hl with | [_, _], _ => rfl
  have F16 := fun_mk (st := s_plan_behind) l16 c16 k16
  have m16 := PySem.W.mg_of X G a16
  have b16 := F16.binds (ps := ["one", "other", "ins", "plan"]) fun _ _ _ _ _ _ us hl => match us, hl with | [_, _, _, _], _ => rfl
  have F17 := fun_mk (st := s_fault_of) l17 c17 k17
  have m17 := PySem.W.mg_of X G a17
  have b17 := F17.binds (ps := ["net", "rooms", "stand", "move"]) fun _ _ _ _ _ _ us hl => match us, hl with | [_, _, _, _], _ => rfl
  have F18 := fun_mk (st := s_stand_behind) l18 c18 k18
  have m18 := PySem.W.mg_of X G a18
  have b18 := F18.binds (ps := ["stand", "move"]) fun _ _ _ _ _ _ us hl => match us, hl with | [_, _], _ => rfl
  have F19 := fun_mk (st := s_moved) l19 c19 k19
  have m19 := PySem.W.mg_of X G a19
  have b19 := F19.binds (ps := ["net", "rooms", "stand", "move"]) fun _ _ _ _ _ _ us hl => match us, hl with | [_, _, _, _], _ => rfl
  have F20 := fun_mk (st := s_played) l20 c20 k20
  have m20 := PySem.W.mg_of X G a20
  have b20 := F20.binds (ps := ["net", "rooms", "plan"]) fun _ _ _ _ _ _ us hl => match us, hl with | [_, _, _], _ => rfl
  have F21 := fun_mk (st := s_most_of) l21 c21 k21
  have m21 := PySem.W.mg_of X G a21
  have b21 := F21.binds (ps := ["net", "plan"]) fun _ _ _ _ _ _ us hl => match us, hl with | [_, _], _ => rfl
  have F22 := fun_mk (st := s_rooms_behind) l22 c22 k22
  have m22 := PySem.W.mg_of X G a22
  have b22 := F22.binds (ps := ["one", "other", "ins", "plan"]) fun _ _ _ _ _ _ us hl => match us, hl with | [_, _, _, _], _ => rfl
  have F23 := fun_mk (st := s_does) l23 c23 k23
  have m23 := PySem.W.mg_of X G a23
  have b23 := F23.binds (ps := ["net", "rooms", "plan", "asked"]) fun _ _ _ _ _ _ us hl => match us, hl with | [_, _, _, _], _ => rfl
  have F24 := fun_mk (st := s_law_plan_right) l24 c24 k24
  have m24 := PySem.W.mg_of X G a24
  have b24 := F24.binds (ps := ["_law_one", "_law_other", "_law_ins_here", "_law_work"]) fun _ _ _ _ _ _ us hl => match us, hl with | [_, _, _, _], _ => rfl
  have F25 := fun_mk (st := s_law) l25 c25 k25
  have m25 := PySem.W.mg_of X G a25
  have X_RoomError : XF K C_RoomError := ⟨nz_RoomError, kX_RoomError, bX_RoomError, tX_RoomError, hdX_RoomError, hgX_RoomError, hkX_RoomError, haX_RoomError, hmX_RoomError, ssX_RoomError, svX_RoomError⟩
  have e_RoomError := clsAt_eq gX_RoomError
  have mX_RoomError : mg "RoomError" = some (.ref (clsAt K "RoomError")) := by rw [e_RoomError]; exact PySem.W.mg_of X G gX_RoomError
  have X_Barred : XF K C_Barred := ⟨nz_Barred, kX_Barred, bX_Barred, tX_Barred, hdX_Barred, hgX_Barred, hkX_Barred, haX_Barred, hmX_Barred, ssX_Barred, svX_Barred⟩
  have e_Barred := clsAt_eq gX_Barred
  have mX_Barred : mg "Barred" = some (.ref (clsAt K "Barred")) := by rw [e_Barred]; exact PySem.W.mg_of X G gX_Barred
  have xf : XFacts K mg := ⟨mX_Barred, (ext_cons (fun _ => by rw [e_Barred]; exact PySem.W.exm_ref bX_Barred hdX_Barred tX_Barred ssX_Barred) (ext_no nX_NoMove (ext_no nX_NoTree (ext_no nX_TooMany (ext_no nX_BadRow ext_nil))))), trivial⟩
  have O_Barred : OexC K (clsAt K "Barred") := by rw [e_Barred]; exact ⟨⟨_, _, _, _, _, _, _, _, _, _, _, _, _, _, _, iO_Barred, iB_Barred⟩, iS_Barred, bX_Barred, tX_Barred, kX_Barred⟩
  have FI_Barred := fun_mk (st := s_Barred_init) iL_Barred iC_Barred iK_Barred
  have bI_Barred := FI_Barred.binds (ps := ["self", "move", "word"]) fun _ _ _ _ _ _ us hl => match us, hl with | [_, _, _], _ => rfl
  refine ⟨PySem.W.fnOf "law" "law" (defArgs s_law) (defBody s_law) (defScope s_law) .none kV25 dc25 pm25 an25 cd25 ct25, fun s v => .of_eq rfl, fun base _ _ => ?_⟩
  have I_Barred : InitOk l.prog w K mg base 1 "Barred" 2 flBar := ⟨by rw [e_Barred]; exact X_Barred.ne, mX_Barred, O_Barred, fI_Barred, _, ["self", "move", "word"], by rw [e_Barred]; exact iI_Barred, iT_Barred, ok_init_Barred FI_Barred bl O_Barred (by rw [e_Barred]; exact iN_Barred_move) (by rw [e_Barred]; exact iN_Barred_word) (PySem.W.mg_of X G gX_RoomError) rE1 rE2 rE3, bI_Barred⟩
  have G__law_take : CalOk l.prog w K mg base 1 "_law_take" 2 takeD := ok_law_take F0 m0 b0 bl
  have G__law_tree_net : CalOk l.prog w K mg base 2 "_law_tree_net" 2 Cm.d_law_tree_net := cal_ok F2 m2 b2 scLawTreeNet 4 2 rfl rfl (body_law_tree_net bl G__law_take)
  have G__law_some_needs : CalOk l.prog w K mg base 2 "_law_some_needs" 2 Cm.d_law_some_needs := cal_ok F3 m3 b3 scLawSomeNeeds 3 2 rfl rfl (body_law_some_needs bl G__law_take)
  have G__law_net : CalOk l.prog w K mg base 3 "_law_net" 2 Cm.d_law_net := cal_ok F4 m4 b4 scLawNet 7 2 rfl rfl (body_law_net bl G__law_take G__law_tree_net G__law_some_needs)
  have G__law_ins : CalOk l.prog w K mg base 2 "_law_ins" 3 Cm.d_law_ins := cal_ok F5 m5 b5 scLawIns 3 3 rfl rfl (body_law_ins bl G__law_take)
  have G_numbers_behind : CalOk l.prog w K mg base 1 "numbers_behind" 3 Cm.d_numbers_behind := cal_ok F6 m6 b6 scNumbersBehind 4 3 rfl rfl (body_numbers_behind bl )
  have G_put_behind : CalOk l.prog w K mg base 2 "put_behind" 3 Cm.d_put_behind := cal_ok F7 m7 b7 scPutBehind 6 3 rfl rfl (body_put_behind bl G_numbers_behind)
  have G_is_work_below : CalOk l.prog w K mg base 1 "is_work_below" 2 Cm.d_is_work_below := cal_ok F8 m8 b8 scIsWorkBelow 0 2 rfl rfl (body_is_work_below bl )
  have G_are_needs : CalOk l.prog w K mg base 2 "are_needs" 2 Cm.d_are_needs := cal_ok F9 m9 b9 scAreNeeds 3 2 rfl rfl (body_are_needs bl G_is_work_below)
  have G_is_net : CalOk l.prog w K mg base 3 "is_net" 1 Cm.d_is_net := cal_ok F10 m10 b10 scIsNet 2 1 rfl rfl (body_is_net bl G_are_needs)
  have G_all_needed : CalOk l.prog w K mg base 1 "all_needed" 2 Cm.d_all_needed := cal_ok F11 m11 b11 scAllNeeded 3 2 rfl rfl (body_all_needed bl )
  have G_number_behind : CalOk l.prog w K mg base 2 "number_behind" 4 Cm.d_number_behind := cal_ok F12 m12 b12 scNumberBehind 0 4 rfl rfl (body_number_behind bl G_numbers_behind)
  have G__law_put_right : CalOk l.prog w K mg base 4 "_law_put_right" 3 Cm.d_law_put_right := cal_ok F13 m13 b13 scLawPutRight 5 3 rfl rfl (body_law_put_right bl G_put_behind G_is_net G_all_needed G_number_behind)
  have G_plan_in : CalOk l.prog w K mg base 1 "plan_in" 3 Cm.d_plan_in := cal_ok F14 m14 b14 scPlanIn 5 3 rfl rfl (body_plan_in bl )
  have G_plain_plan : CalOk l.prog w K mg base 2 "plain_plan" 2 Cm.d_plain_plan := cal_ok F15 m15 b15 scPlainPlan 0 2 rfl rfl (body_plain_plan bl G_plan_in G_all_needed)
  have G_plan_behind : CalOk l.prog w K mg base 3 "plan_behind" 4 Cm.d_plan_behind := cal_ok F16 m16 b16 scPlanBehind 8 4 rfl rfl (body_plan_behind bl G_numbers_behind G_plain_plan c_DO c_CLEAR)
  have G_fault_of : CalOk l.prog w K mg base 1 "fault_of" 4 Cm.d_fault_of := cal_ok F17 m17 b17 scFaultOf 4 4 rfl rfl (body_fault_of bl c_CLEAR)
  have G_stand_behind : CalOk l.prog w K mg base 1 "stand_behind" 2 Cm.d_stand_behind := cal_ok F18 m18 b18 scStandBehind 3 2 rfl rfl (body_stand_behind bl c_DO)
  have G_moved : CalOk l.prog w K mg base 3 "moved" 4 Cm.d_moved := cal_ok F19 m19 b19 scMoved 1 4 rfl rfl (body_moved bl G_fault_of G_stand_behind xf I_Barred)
  have G_played : CalOk l.prog w K mg base 4 "played" 3 Cm.d_played := cal_ok F20 m20 b20 scPlayed 4 3 rfl rfl (body_played bl G_fault_of G_moved xf I_Barred)
  have G_most_of : CalOk l.prog w K mg base 5 "most_of" 2 Cm.d_most_of := cal_ok F21 m21 b21 scMostOf 1 2 rfl rfl (body_most_of bl G_played)
  have G_rooms_behind : CalOk l.prog w K mg base 6 "rooms_behind" 4 Cm.d_rooms_behind := cal_ok F22 m22 b22 scRoomsBehind 2 4 rfl rfl (body_rooms_behind bl G_most_of G_plain_plan)
  have G_does : CalOk l.prog w K mg base 5 "does" 4 Cm.d_does := cal_ok F23 m23 b23 scDoes 2 4 rfl rfl (body_does bl G_played xf)
  have G__law_plan_right : CalOk l.prog w K mg base 7 "_law_plan_right" 4 Cm.d_law_plan_right := cal_ok F24 m24 b24 scLawPlanRight 8 4 rfl rfl (body_law_plan_right bl G_plain_plan G_put_behind G_number_behind G_plan_behind G_rooms_behind G_does G_most_of G_played)
  exact ok_law F25 F1 m1 b1 bl G__law_net G__law_take G__law_ins G_put_behind G__law_put_right G__law_plan_right
end K69
open PySem PySem.W PyProof.Rows
set_option maxRecDepth 100000 in
set_option maxHeartbeats 0 in
theorem PySem.Challenge.cw_fewrooms_k69_whole_nets_one_behind_anoth_holds : PySem.Challenge.rw_fewrooms_k69_whole_nets_one_behind_anoth.Holds := by
  w_on; o_law; k_head; (case hw => w_witness2)
  k_fill
  refine L2.walk_of (l := PySem.Challenge.rw_fewrooms_k69_whole_nets_one_behind_anoth) (n := 63) (k := 8) (x := "_law_script") (CX := fun w => L2.CX PySem.Challenge.rw_fewrooms_k69_whole_nets_one_behind_anoth.prog w) (sp := fun w => Fw.spLaw _) rfl (by decide) rfl ⟨rfl, by decide, by decide⟩ (fun w h Y => PySem.W.kIn_of Y) ?F (fun _ H a ns hl ho hS => ⟨a, ns, rfl, hS, hl, Fw.hlen_only ho, fun _ => rfl⟩) (fun _ _ _ _ _ z => Fw.cx_no z)
  case F =>
    intro w mg fa h KX G hmg
    refine' K69.all_mk KX G hmg ?a0 ?l0 ?c0 ?k0 ?a1 ?l1 ?c1 ?k1 ?a2 ?l2 ?c2 ?k2 ?a3 ?l3 ?c3 ?k3 ?a4 ?l4 ?c4 ?k4 ?a5 ?l5 ?c5 ?k5 ?a6 ?l6 ?c6 ?k6 ?a7 ?l7 ?c7 ?k7 ?a8 ?l8 ?c8 ?k8 ?a9 ?l9 ?c9 ?k9 ?a10 ?l10 ?c10 ?k10 ?a11 ?l11 ?c11 ?k11 ?a12 ?l12 ?c12 ?k12 ?a13 ?l13 ?c13 ?k13 ?a14 ?l14 ?c14 ?k14 ?a15 ?l15 ?c15 ?k15 ?a16 ?l16 ?c16 ?k16 ?a17 ?l17 ?c17 ?k17 ?a18 ?l18 ?c18 ?k18 ?a19 ?l19 ?c19 ?k19 ?a20 ?l20 ?c20 ?k20 ?a21 ?l21 ?c21 ?k21 ?a22 ?l22 ?c22 ?k22 ?a23 ?l23 ?c23 ?k23 ?a24 ?l24 ?c24 ?k24 ?a25 ?l25 ?c25 ?k25 ?b_len ?b_range ?b_tuple ?b_list ?b_min ?b_max ?b_sum ?b_all ?b_any ?b_int ?b_bool ?b_str ?b_dict ?b_set ?b_sorted ?b_isinstance ?b_enumerate ?b_zip ?b_reversed ?b_divmod ?b_abs ?b_ValueError ?g_DO ?g_CLEAR ?gX_RoomError ?gX_Barred ?nX_NoMove ?nX_NoTree ?nX_TooMany ?nX_BadRow ?nz_RoomError ?kX_RoomError ?bX_RoomError ?tX_RoomError ?hdX_RoomError ?hgX_RoomError ?hkX_RoomError ?haX_RoomError ?hmX_RoomError ?ssX_RoomError ?svX_RoomError ?nz_Barred ?kX_Barred ?bX_Barred ?tX_Barred ?hdX_Barred ?hgX_Barred ?hkX_Barred ?haX_Barred ?hmX_Barred ?ssX_Barred ?svX_Barred ?hnX ?htX ?iO_Barred ?iB_Barred ?iS_Barred ?iI_Barred ?iT_Barred ?iL_Barred ?iC_Barred ?iK_Barred ?iN_Barred_move ?iN_Barred_word ?rE1 ?rE2 ?rE3
    (case a0 => k_is)
    (case l0 => k_is)
    (case c0 => k_is)
    (case k0 => k_is)
    (case a1 => k_is)
    (case l1 => k_is)
    (case c1 => k_is)
    (case k1 => k_is)
    (case a2 => k_is)
    (case l2 => k_is)
    (case c2 => k_is)
    (case k2 => k_is)
    (case a3 => k_is)
    (case l3 => k_is)
    (case c3 => k_is)
    (case k3 => k_is)
    (case a4 => k_is)
    (case l4 => k_is)
    (case c4 => k_is)
    (case k4 => k_is)
    (case a5 => k_is)
    (case l5 => k_is)
    (case c5 => k_is)
    (case k5 => k_is)
    (case a6 => k_is)
    (case l6 => k_is)
    (case c6 => k_is)
    (case k6 => k_is)
    (case a7 => k_is)
    (case l7 => k_is)
    (case c7 => k_is)
    (case k7 => k_is)
    (case a8 => k_is)
    (case l8 => k_is)
    (case c8 => k_is)
    (case k8 => k_is)
    (case a9 => k_is)
    (case l9 => k_is)
    (case c9 => k_is)
    (case k9 => k_is)
    (case a10 => k_is)
    (case l10 => k_is)
    (case c10 => k_is)
    (case k10 => k_is)
    (case a11 => k_is)
    (case l11 => k_is)
    (case c11 => k_is)
    (case k11 => k_is)
    (case a12 => k_is)
    (case l12 => k_is)
    (case c12 => k_is)
    (case k12 => k_is)
    (case a13 => k_is)
    (case l13 => k_is)
    (case c13 => k_is)
    (case k13 => k_is)
    (case a14 => k_is)
    (case l14 => k_is)
    (case c14 => k_is)
    (case k14 => k_is)
    (case a15 => k_is)
    (case l15 => k_is)
    (case c15 => k_is)
    (case k15 => k_is)
    (case a16 => k_is)
    (case l16 => k_is)
    (case c16 => k_is)
    (case k16 => k_is)
    (case a17 => k_is)
    (case l17 => k_is)
    (case c17 => k_is)
    (case k17 => k_is)
    (case a18 => k_is)
    (case l18 => k_is)
    (case c18 => k_is)
    (case k18 => k_is)
    (case a19 => k_is)
    (case l19 => k_is)
    (case c19 => k_is)
    (case k19 => k_is)
    (case a20 => k_is)
    (case l20 => k_is)
    (case c20 => k_is)
    (case k20 => k_is)
    (case a21 => k_is)
    (case l21 => k_is)
    (case c21 => k_is)
    (case k21 => k_is)
    (case a22 => k_is)
    (case l22 => k_is)
    (case c22 => k_is)
    (case k22 => k_is)
    (case a23 => k_is)
    (case l23 => k_is)
    (case c23 => k_is)
    (case k23 => k_is)
    (case a24 => k_is)
    (case l24 => k_is)
    (case c24 => k_is)
    (case k24 => k_is)
    (case a25 => k_is)
    (case l25 => k_is)
    (case c25 => k_is)
    (case k25 => k_is)
    (case b_len => k_is)
    (case b_range => k_is)
    (case b_tuple => k_is)
    (case b_list => k_is)
    (case b_min => k_is)
    (case b_max => k_is)
    (case b_sum => k_is)
    (case b_all => k_is)
    (case b_any => k_is)
    (case b_int => k_is)
    (case b_bool => k_is)
    (case b_str => k_is)
    (case b_dict => k_is)
    (case b_set => k_is)
    (case b_sorted => k_is)
    (case b_isinstance => k_is)
    (case b_enumerate => k_is)
    (case b_zip => k_is)
    (case b_reversed => k_is)
    (case b_divmod => k_is)
    (case b_abs => k_is)
    (case b_ValueError => k_is)
    (case g_DO => k_is)
    (case g_CLEAR => k_is)
    (case gX_RoomError => k_is)
    (case gX_Barred => k_is)
    (case nX_NoMove => k_is)
    (case nX_NoTree => k_is)
    (case nX_TooMany => k_is)
    (case nX_BadRow => k_is)
    (case nz_RoomError => rfl)
    (case kX_RoomError => k_is)
    (case bX_RoomError => k_is)
    (case tX_RoomError => k_is)
    (case hdX_RoomError => k_is)
    (case hgX_RoomError => k_is)
    (case hkX_RoomError => k_is)
    (case haX_RoomError => k_is)
    (case hmX_RoomError => k_is)
    (case ssX_RoomError => k_is)
    (case svX_RoomError => k_is)
    (case nz_Barred => rfl)
    (case kX_Barred => k_is)
    (case bX_Barred => k_is)
    (case tX_Barred => k_is)
    (case hdX_Barred => k_is)
    (case hgX_Barred => k_is)
    (case hkX_Barred => k_is)
    (case haX_Barred => k_is)
    (case hmX_Barred => k_is)
    (case ssX_Barred => k_is)
    (case svX_Barred => k_is)
    (case hnX => k_is)
    (case htX => k_is)
    (case iO_Barred => k_is)
    (case iB_Barred => decide +kernel)
    (case iS_Barred => k_is)
    (case iI_Barred => k_is)
    (case iT_Barred => k_is)
    (case iL_Barred => k_is)
    (case iC_Barred => k_is)
    (case iK_Barred => k_is)
    (case iN_Barred_move => k_is)
    (case iN_Barred_word => k_is)
    (case rE1 => k_is)
    (case rE2 => k_is)
    (case rE3 => k_is)
